/- The bodies of functions of this cut, gone through by Lean itself. No condition. -/
import Derived.Test.YtdidccjcbfcklaaGreatT0
set_option linter.unusedVariables false
set_option linter.defProp false
set_option maxRecDepth 100000
set_option maxHeartbeats 0
namespace Go.Proofs.Tryz
noncomputable section
open Go.Abs
open Int renaming ofNat_eq_natCast → n1, cast_ofNat_Int → n2
def g331 : G [] f331 [] := ⟨_, by funext v; conv => lhs; reduce; try dsimp only [n1, n2, n3]⟩
def a331 : F := g331.1
theorem e331 : E 331 a331 := K func331 g331.2 (by kernel_rfl)
def u331 (v : List AV) := (show a331 v = _ from by unfold a331 g331; dsimp only)
def g333 : G [] f333 [] := ⟨_, by funext v; conv => lhs; reduce; try dsimp only [n1, n2, n3]⟩
def a333 : F := g333.1
theorem e333 : E 333 a333 := K func333 g333.2 (by kernel_rfl)
def g334 : G [] f334 [6] := ⟨_, by funext v; conv => lhs; reduce; try dsimp only [n1, n2, n3]⟩
def a334 : F := g334.1
theorem e334 : E 334 a334 := K func334 g334.2 (by kernel_rfl)
def g335 : G [] f335 [] := ⟨_, by funext v; conv => lhs; reduce; try dsimp only [n1, n2, n3]⟩
def a335 : F := g335.1
theorem e335 : E 335 a335 := K func335 g335.2 (by kernel_rfl)
def g336 : G [] f336 [4] := ⟨_, by funext v; conv => lhs; reduce; try dsimp only [n1, n2, n3]⟩
def a336 : F := g336.1
theorem e336 : E 336 a336 := K func336 g336.2 (by kernel_rfl)
def g337 : G [] f337 [2,3] := ⟨_, by funext v; conv => lhs; reduce; try dsimp only [n1, n2, n3]⟩
def a337 : F := g337.1
theorem e337 : E 337 a337 := K func337 g337.2 (by kernel_rfl)
def g338 : G [] f338 [] := ⟨_, by funext v; conv => lhs; reduce; try dsimp only [n1, n2, n3]⟩
def a338 : F := g338.1
theorem e338 : E 338 a338 := K func338 g338.2 (by kernel_rfl)
def g339 : G [] f339 [] := ⟨_, by funext v; conv => lhs; reduce; try dsimp only [n1, n2, n3]⟩
def a339 : F := g339.1
theorem e339 : E 339 a339 := K func339 g339.2 (by kernel_rfl)
def g341 : G [] f341 [] := ⟨_, by funext v; conv => lhs; reduce; try dsimp only [n1, n2, n3]⟩
def a341 : F := g341.1
theorem e341 : E 341 a341 := K func341 g341.2 (by kernel_rfl)
def g342 : G [] f342 [] := ⟨_, by funext v; conv => lhs; reduce; try dsimp only [n1, n2, n3]⟩
def a342 : F := g342.1
theorem e342 : E 342 a342 := K func342 g342.2 (by kernel_rfl)
def g344 : G [] f344 [] := ⟨_, by funext v; conv => lhs; reduce; try dsimp only [n1, n2, n3]⟩
def a344 : F := g344.1
theorem e344 : E 344 a344 := K func344 g344.2 (by kernel_rfl)
def u344 (v : List AV) := (show a344 v = _ from by unfold a344 g344; dsimp only)
def g345 : G [] f345 [9] := ⟨_, by funext v; conv => lhs; reduce; try dsimp only [n1, n2, n3]⟩
def a345 : F := g345.1
theorem e345 : E 345 a345 := K func345 g345.2 (by kernel_rfl)
def g346 : G [] f346 [] := ⟨_, by funext v; conv => lhs; reduce; try dsimp only [n1, n2, n3]⟩
def a346 : F := g346.1
theorem e346 : E 346 a346 := K func346 g346.2 (by kernel_rfl)
def g347 : G [] f347 [] := ⟨_, by funext v; conv => lhs; reduce; try dsimp only [n1, n2, n3]⟩
def a347 : F := g347.1
theorem e347 : E 347 a347 := K func347 g347.2 (by kernel_rfl)
def g348 : G [] f348 [] := ⟨_, by funext v; conv => lhs; reduce; try dsimp only [n1, n2, n3]⟩
def a348 : F := g348.1
theorem e348 : E 348 a348 := K func348 g348.2 (by kernel_rfl)
def g349 : G [] f349 [9] := ⟨_, by funext v; conv => lhs; reduce; try dsimp only [n1, n2, n3]⟩
def a349 : F := g349.1
theorem e349 : E 349 a349 := K func349 g349.2 (by kernel_rfl)
def g350 : G [] f350 [4] := ⟨_, by funext v; conv => lhs; reduce; try dsimp only [n1, n2, n3]⟩
def a350 : F := g350.1
theorem e350 : E 350 a350 := K func350 g350.2 (by kernel_rfl)
def g351 : G [(2,[0,2,4,6,8,10,12,14,16,18,20,22,24,26,28,34,36,38,40,30,41,32,42,44,46])] f351 [] := ⟨_, by funext v; conv => lhs; reduce; try dsimp only [n1, n2, n3]⟩
def a351 : F := g351.1
theorem e351 : E 351 a351 := K func351 g351.2 (by kernel_rfl)
def g352 : G [] f352 [9] := ⟨_, by funext v; conv => lhs; reduce; try dsimp only [n1, n2, n3]⟩
def a352 : F := g352.1
theorem e352 : E 352 a352 := K func352 g352.2 (by kernel_rfl)
def g353 : G [] f353 [] := ⟨_, by funext v; conv => lhs; reduce; try dsimp only [n1, n2, n3]⟩
def a353 : F := g353.1
theorem e353 : E 353 a353 := K func353 g353.2 (by kernel_rfl)
def g354 : G [] f354 [2] := ⟨_, by funext v; conv => lhs; reduce; try dsimp only [n1, n2, n3]⟩
def a354 : F := g354.1
theorem e354 : E 354 a354 := K func354 g354.2 (by kernel_rfl)
def g355 : G [] f355 [9] := ⟨_, by funext v; conv => lhs; reduce; try dsimp only [n1, n2, n3]⟩
def a355 : F := g355.1
theorem e355 : E 355 a355 := K func355 g355.2 (by kernel_rfl)
def g356 : G [] f356 [] := ⟨_, by funext v; conv => lhs; reduce; try dsimp only [n1, n2, n3]⟩
def a356 : F := g356.1
theorem e356 : E 356 a356 := K func356 g356.2 (by kernel_rfl)
def g357 : G [] f357 [] := ⟨_, by funext v; conv => lhs; reduce; try dsimp only [n1, n2, n3]⟩
def a357 : F := g357.1
theorem e357 : E 357 a357 := K func357 g357.2 (by kernel_rfl)
def g358 : G [] f358 [9] := ⟨_, by funext v; conv => lhs; reduce; try dsimp only [n1, n2, n3]⟩
def a358 : F := g358.1
theorem e358 : E 358 a358 := K func358 g358.2 (by kernel_rfl)
def g359 : G [] f359 [] := ⟨_, by funext v; conv => lhs; reduce; try dsimp only [n1, n2, n3]⟩
def a359 : F := g359.1
theorem e359 : E 359 a359 := K func359 g359.2 (by kernel_rfl)
def g360 : G [] f360 [] := ⟨_, by funext v; conv => lhs; reduce; try dsimp only [n1, n2, n3]⟩
def a360 : F := g360.1
theorem e360 : E 360 a360 := K func360 g360.2 (by kernel_rfl)
def g361 : G [] f361 [] := ⟨_, by funext v; conv => lhs; reduce; try dsimp only [n1, n2, n3]⟩
def a361 : F := g361.1
theorem e361 : E 361 a361 := K func361 g361.2 (by kernel_rfl)
def g362 : G [] f362 [2] := ⟨_, by funext v; conv => lhs; reduce; try dsimp only [n1, n2, n3]⟩
def a362 : F := g362.1
theorem e362 : E 362 a362 := K func362 g362.2 (by kernel_rfl)
def g363 : G [] f363 [] := ⟨_, by funext v; conv => lhs; reduce; try dsimp only [n1, n2, n3]⟩
def a363 : F := g363.1
theorem e363 : E 363 a363 := K func363 g363.2 (by kernel_rfl)
def g364 : G [] f364 [] := ⟨_, by funext v; conv => lhs; reduce; try dsimp only [n1, n2, n3]⟩
def a364 : F := g364.1
theorem e364 : E 364 a364 := K func364 g364.2 (by kernel_rfl)
def g365 : G [] f365 [9] := ⟨_, by funext v; conv => lhs; reduce; try dsimp only [n1, n2, n3]⟩
def a365 : F := g365.1
theorem e365 : E 365 a365 := K func365 g365.2 (by kernel_rfl)
def g366 : G [(3,[0,2,4,6,10,12,14,16,18,20,22,24,8,1,21,26,1,28,30,32,34,36])] f366 [] := ⟨_, by funext v; conv => lhs; reduce; try dsimp only [n1, n2, n3]⟩
def a366 : F := g366.1
theorem e366 : E 366 a366 := K func366 g366.2 (by kernel_rfl)
def g367 : G [] f367 [3] := ⟨_, by funext v; conv => lhs; reduce; try dsimp only [n1, n2, n3]⟩
def a367 : F := g367.1
theorem e367 : E 367 a367 := K func367 g367.2 (by kernel_rfl)
def g368 : G [] f368 [] := ⟨_, by funext v; conv => lhs; reduce; try dsimp only [n1, n2, n3]⟩
def a368 : F := g368.1
theorem e368 : E 368 a368 := K func368 g368.2 (by kernel_rfl)
def g369 : G [] f369 [] := ⟨_, by funext v; conv => lhs; reduce; try dsimp only [n1, n2, n3]⟩
def a369 : F := g369.1
theorem e369 : E 369 a369 := K func369 g369.2 (by kernel_rfl)
def g370 : G [] f370 [9] := ⟨_, by funext v; conv => lhs; reduce; try dsimp only [n1, n2, n3]⟩
def a370 : F := g370.1
theorem e370 : E 370 a370 := K func370 g370.2 (by kernel_rfl)
def g371 : G [] f371 [] := ⟨_, by funext v; conv => lhs; reduce; try dsimp only [n1, n2, n3]⟩
def a371 : F := g371.1
theorem e371 : E 371 a371 := K func371 g371.2 (by kernel_rfl)
def g372 : G [] f372 [] := ⟨_, by funext v; conv => lhs; reduce; try dsimp only [n1, n2, n3]⟩
def a372 : F := g372.1
theorem e372 : E 372 a372 := K func372 g372.2 (by kernel_rfl)
def g373 : G [] f373 [2] := ⟨_, by funext v; conv => lhs; reduce; try dsimp only [n1, n2, n3]⟩
def a373 : F := g373.1
theorem e373 : E 373 a373 := K func373 g373.2 (by kernel_rfl)
def g374 : G [(0,[0,2,4,6,1,3,8,10,12,14,16,18,20,3,22,24,26,28])] f374 [] := ⟨_, by funext v; conv => lhs; reduce; try dsimp only [n1, n2, n3]⟩
def a374 : F := g374.1
theorem e374 : E 374 a374 := K func374 g374.2 (by kernel_rfl)
def g375 : G [] f375 [3] := ⟨_, by funext v; conv => lhs; reduce; try dsimp only [n1, n2, n3]⟩
def a375 : F := g375.1
theorem e375 : E 375 a375 := K func375 g375.2 (by kernel_rfl)
def g376 : G [] f376 [] := ⟨_, by funext v; conv => lhs; reduce; try dsimp only [n1, n2, n3]⟩
def a376 : F := g376.1
theorem e376 : E 376 a376 := K func376 g376.2 (by kernel_rfl)
def g377 : G [] f377 [3] := ⟨_, by funext v; conv => lhs; reduce; try dsimp only [n1, n2, n3]⟩
def a377 : F := g377.1
theorem e377 : E 377 a377 := K func377 g377.2 (by kernel_rfl)
def g381 : G [] f381 [] := ⟨_, by funext v; conv => lhs; reduce; try dsimp only [n1, n2, n3]⟩
def a381 : F := g381.1
theorem e381 : E 381 a381 := K func381 g381.2 (by kernel_rfl)
def g382 : G [(0,[0,2,4,6,8,10,12,14,16,18,20,22,24,26,28,30,32,34,36,38,11,40,42,44,46,48])] f382 [] := ⟨_, by funext v; conv => lhs; reduce; try dsimp only [n1, n2, n3]⟩
def a382 : F := g382.1
theorem e382 : E 382 a382 := K func382 g382.2 (by kernel_rfl)
def g383 : G [] f383 [] := ⟨_, by funext v; conv => lhs; reduce; try dsimp only [n1, n2, n3]⟩
def a383 : F := g383.1
theorem e383 : E 383 a383 := K func383 g383.2 (by kernel_rfl)
def g384 : G [] f384 [] := ⟨_, by funext v; conv => lhs; reduce; try dsimp only [n1, n2, n3]⟩
def a384 : F := g384.1
theorem e384 : E 384 a384 := K func384 g384.2 (by kernel_rfl)
def g385 : G [] f385 [] := ⟨_, by funext v; conv => lhs; reduce; try dsimp only [n1, n2, n3]⟩
def a385 : F := g385.1
theorem e385 : E 385 a385 := K func385 g385.2 (by kernel_rfl)
def g386 : G [] f386 [2,3] := ⟨_, by funext v; conv => lhs; reduce; try dsimp only [n1, n2, n3]⟩
def a386 : F := g386.1
theorem e386 : E 386 a386 := K func386 g386.2 (by kernel_rfl)
def g387 : G [] f387 [] := ⟨_, by funext v; conv => lhs; reduce; try dsimp only [n1, n2, n3]⟩
def a387 : F := g387.1
theorem e387 : E 387 a387 := K func387 g387.2 (by kernel_rfl)
def g388 : G [] f388 [] := ⟨_, by funext v; conv => lhs; reduce; try dsimp only [n1, n2, n3]⟩
def a388 : F := g388.1
theorem e388 : E 388 a388 := K func388 g388.2 (by kernel_rfl)
def g389 : G [] f389 [] := ⟨_, by funext v; conv => lhs; reduce; try dsimp only [n1, n2, n3]⟩
def a389 : F := g389.1
theorem e389 : E 389 a389 := K func389 g389.2 (by kernel_rfl)
def g391 : G [] f391 [] := ⟨_, by funext v; conv => lhs; reduce; try dsimp only [n1, n2, n3]⟩
def a391 : F := g391.1
theorem e391 : E 391 a391 := K func391 g391.2 (by kernel_rfl)
def g392 : G [] f392 [2] := ⟨_, by funext v; conv => lhs; reduce; try dsimp only [n1, n2, n3]⟩
def a392 : F := g392.1
theorem e392 : E 392 a392 := K func392 g392.2 (by kernel_rfl)
def a393x0 (v1 v2 v3 : AV) : AC := .op (.build [(B false), (B false), (B false), (B false), (B false), (B false)] [(3, 1, (B true)), (5, 1, (B true))]) fun v4=>.op (.build (List.replicate 36 (B false)) [(12, 6, v2), (18, 6, v3), (24, 6, v4)]) fun v5=>.op (.store 36 v1 v5) fun v6=>.ret .ret [v1]
def a393 : List AV → AC := fun v0=>.fin (.op (.alloc (List.replicate 36 (B false))) fun v1=>.op (.build [(B false), (B false), (B false), (B false), (B false), (B false)] [(3, 1, (B true))]) fun v2=>.op (.build [(B false), (B false), (B false), (B false), (B false), (B false)] [(2, 1, (B true)), (4, 1, (B true))]) fun v3=>(a393x0 v1 v2 v3)) fun v1=>.op (.load 36 true (nth v1 0)) fun v2=>.ret .ret [v2]
theorem e393 : E 393 a393 := ⟨f393, [], func393, by kernel_rfl, by kernel_rfl⟩
def g394 : G [] f394 [4] := ⟨_, by funext v; conv => lhs; reduce; try dsimp only [n1, n2, n3]⟩
def a394 : F := g394.1
theorem e394 : E 394 a394 := K func394 g394.2 (by kernel_rfl)
def g395 : G [] f395 [] := ⟨_, by funext v; conv => lhs; reduce; try dsimp only [n1, n2, n3]⟩
def a395 : F := g395.1
theorem e395 : E 395 a395 := K func395 g395.2 (by kernel_rfl)
def g396 : G [] f396 [] := ⟨_, by funext v; conv => lhs; reduce; try dsimp only [n1, n2, n3]⟩
def a396 : F := g396.1
theorem e396 : E 396 a396 := K func396 g396.2 (by kernel_rfl)
def g397 : G [] f397 [4] := ⟨_, by funext v; conv => lhs; reduce; try dsimp only [n1, n2, n3]⟩
def a397 : F := g397.1
theorem e397 : E 397 a397 := K func397 g397.2 (by kernel_rfl)
def g398 : G [(0,[0,2,4,1,6,8,10,12,14,16])] f398 [] := ⟨_, by funext v; conv => lhs; reduce; try dsimp only [n1, n2, n3]⟩
def a398 : F := g398.1
theorem e398 : E 398 a398 := K func398 g398.2 (by kernel_rfl)
def g399 : G [] f399 [2,3] := ⟨_, by funext v; conv => lhs; reduce; try dsimp only [n1, n2, n3]⟩
def a399 : F := g399.1
theorem e399 : E 399 a399 := K func399 g399.2 (by kernel_rfl)
def g400 : G [] f400 [] := ⟨_, by funext v; conv => lhs; reduce; try dsimp only [n1, n2, n3]⟩
def a400 : F := g400.1
theorem e400 : E 400 a400 := K func400 g400.2 (by kernel_rfl)
def g401 : G [(1,[0,2,6,4,7,8,10,12])] f401 [] := ⟨_, by funext v; conv => lhs; reduce; try dsimp only [n1, n2, n3]⟩
def a401 : F := g401.1
theorem e401 : E 401 a401 := K func401 g401.2 (by kernel_rfl)
def g402 : G [(13,[0,2,4,6,8,1,10,12,14,16,18]),(14,[0,2,4,6,8,10,12,14,1,3,11,16,18,1,20,22,24,26])] f402 [5,6,29] := ⟨_, by funext v; conv => lhs; reduce; try dsimp only [n1, n2, n3]⟩
def a402 : F := g402.1
theorem e402 : E 402 a402 := K func402 g402.2 (by kernel_rfl)
def g403 : G [] f403 [] := ⟨_, by funext v; conv => lhs; reduce; try dsimp only [n1, n2, n3]⟩
def a403 : F := g403.1
theorem e403 : E 403 a403 := K func403 g403.2 (by kernel_rfl)
def g404 : G [] f404 [] := ⟨_, by funext v; conv => lhs; reduce; try dsimp only [n1, n2, n3]⟩
def a404 : F := g404.1
theorem e404 : E 404 a404 := K func404 g404.2 (by kernel_rfl)
def g405 : G [] f405 [2] := ⟨_, by funext v; conv => lhs; reduce; try dsimp only [n1, n2, n3]⟩
def a405 : F := g405.1
theorem e405 : E 405 a405 := K func405 g405.2 (by kernel_rfl)
def g406 : G [(0,[0,2,4,6,1,3,8,10,12,14,16,18,20,3,22,24,26,28])] f406 [] := ⟨_, by funext v; conv => lhs; reduce; try dsimp only [n1, n2, n3]⟩
def a406 : F := g406.1
theorem e406 : E 406 a406 := K func406 g406.2 (by kernel_rfl)
def g407 : G [] f407 [3] := ⟨_, by funext v; conv => lhs; reduce; try dsimp only [n1, n2, n3]⟩
def a407 : F := g407.1
theorem e407 : E 407 a407 := K func407 g407.2 (by kernel_rfl)
def g408 : G [(4,[0,2,4,6,8,7,10])] f408 [5] := ⟨_, by funext v; conv => lhs; reduce; try dsimp only [n1, n2, n3]⟩
def a408 : F := g408.1
theorem e408 : E 408 a408 := K func408 g408.2 (by kernel_rfl)
def g409 : G [] f409 [] := ⟨_, by funext v; conv => lhs; reduce; try dsimp only [n1, n2, n3]⟩
def a409 : F := g409.1
theorem e409 : E 409 a409 := K func409 g409.2 (by kernel_rfl)
def g410 : G [(6,[0,2,4,6,8,10,9,12])] f410 [3] := ⟨_, by funext v; conv => lhs; reduce; try dsimp only [n1, n2, n3]⟩
def a410 : F := g410.1
theorem e410 : E 410 a410 := K func410 g410.2 (by kernel_rfl)
def g411 : G [] f411 [] := ⟨_, by funext v; conv => lhs; reduce; try dsimp only [n1, n2, n3]⟩
def a411 : F := g411.1
theorem e411 : E 411 a411 := K func411 g411.2 (by kernel_rfl)
def g412 : G [] f412 [4] := ⟨_, by funext v; conv => lhs; reduce; try dsimp only [n1, n2, n3]⟩
def a412 : F := g412.1
theorem e412 : E 412 a412 := K func412 g412.2 (by kernel_rfl)
def g413 : G [] f413 [2,3] := ⟨_, by funext v; conv => lhs; reduce; try dsimp only [n1, n2, n3]⟩
def a413 : F := g413.1
theorem e413 : E 413 a413 := K func413 g413.2 (by kernel_rfl)
def g414 : G [] f414 [4] := ⟨_, by funext v; conv => lhs; reduce; try dsimp only [n1, n2, n3]⟩
def a414 : F := g414.1
theorem e414 : E 414 a414 := K func414 g414.2 (by kernel_rfl)
def g415 : G [] f415 [] := ⟨_, by funext v; conv => lhs; reduce; try dsimp only [n1, n2, n3]⟩
def a415 : F := g415.1
theorem e415 : E 415 a415 := K func415 g415.2 (by kernel_rfl)
def g416 : G [] f416 [2] := ⟨_, by funext v; conv => lhs; reduce; try dsimp only [n1, n2, n3]⟩
def a416 : F := g416.1
theorem e416 : E 416 a416 := K func416 g416.2 (by kernel_rfl)
def g417 : G [(2,[0,2,4,6,8,10,12,14,16,18,20,22,24,26,28,30,32,34,36,38,11,19,29,40,42])] f417 [] := ⟨_, by funext v; conv => lhs; reduce; try dsimp only [n1, n2, n3]⟩
def a417 : F := g417.1
theorem e417 : E 417 a417 := K func417 g417.2 (by kernel_rfl)
def g418 : G [(0,[0,2,4,6,8,10,12,14,16,18,20,22,24,26,28,30,32,34,36,13,23,38])] f418 [] := ⟨_, by funext v; conv => lhs; reduce; try dsimp only [n1, n2, n3]⟩
def a418 : F := g418.1
theorem e418 : E 418 a418 := K func418 g418.2 (by kernel_rfl)
def g420 : G [] f420 [] := ⟨_, by funext v; conv => lhs; reduce; try dsimp only [n1, n2, n3]⟩
def a420 : F := g420.1
theorem e420 : E 420 a420 := K func420 g420.2 (by kernel_rfl)
def g421 : G [(1,[0,2,4,6,8,10,12,14,16,18,22,24,26,28,30,32,34,36,38,40,42,44,46,52,54,56,58,20,29,39,47,59,48,29,59,50,29,59,60,29,62])] f421 [] := ⟨_, by funext v; conv => lhs; reduce; try dsimp only [n1, n2, n3]⟩
def a421 : F := g421.1
theorem e421 : E 421 a421 := K func421 g421.2 (by kernel_rfl)
def g423 : G [] f423 [] := ⟨_, by funext v; conv => lhs; reduce; try dsimp only [n1, n2, n3]⟩
def a423 : F := g423.1
theorem e423 : E 423 a423 := K func423 g423.2 (by kernel_rfl)
def g424 : G [] f424 [] := ⟨_, by funext v; conv => lhs; reduce; try dsimp only [n1, n2, n3]⟩
def a424 : F := g424.1
theorem e424 : E 424 a424 := K func424 g424.2 (by kernel_rfl)
def g425 : G [] f425 [] := ⟨_, by funext v; conv => lhs; reduce; try dsimp only [n1, n2, n3]⟩
def a425 : F := g425.1
theorem e425 : E 425 a425 := K func425 g425.2 (by kernel_rfl)
def g426 : G [] f426 [] := ⟨_, by funext v; conv => lhs; reduce; try dsimp only [n1, n2, n3]⟩
def a426 : F := g426.1
theorem e426 : E 426 a426 := K func426 g426.2 (by kernel_rfl)
def g427 : G [] f427 [] := ⟨_, by funext v; conv => lhs; reduce; try dsimp only [n1, n2, n3]⟩
def a427 : F := g427.1
theorem e427 : E 427 a427 := K func427 g427.2 (by kernel_rfl)
def g428 : G [] f428 [2] := ⟨_, by funext v; conv => lhs; reduce; try dsimp only [n1, n2, n3]⟩
def a428 : F := g428.1
theorem e428 : E 428 a428 := K func428 g428.2 (by kernel_rfl)
def g429 : G [] f429 [] := ⟨_, by funext v; conv => lhs; reduce; try dsimp only [n1, n2, n3]⟩
def a429 : F := g429.1
theorem e429 : E 429 a429 := K func429 g429.2 (by kernel_rfl)
def g430 : G [] f430 [2,3] := ⟨_, by funext v; conv => lhs; reduce; try dsimp only [n1, n2, n3]⟩
def a430 : F := g430.1
theorem e430 : E 430 a430 := K func430 g430.2 (by kernel_rfl)
def g431 : G [] f431 [] := ⟨_, by funext v; conv => lhs; reduce; try dsimp only [n1, n2, n3]⟩
def a431 : F := g431.1
theorem e431 : E 431 a431 := K func431 g431.2 (by kernel_rfl)
def g432 : G [] f432 [] := ⟨_, by funext v; conv => lhs; reduce; try dsimp only [n1, n2, n3]⟩
def a432 : F := g432.1
theorem e432 : E 432 a432 := K func432 g432.2 (by kernel_rfl)
def g435 : G [] f435 [] := ⟨_, by funext v; conv => lhs; reduce; try dsimp only [n1, n2, n3]⟩
def a435 : F := g435.1
theorem e435 : E 435 a435 := K func435 g435.2 (by kernel_rfl)
def g436 : G [(6,[0,2,4,6,8,10,9,12])] f436 [3] := ⟨_, by funext v; conv => lhs; reduce; try dsimp only [n1, n2, n3]⟩
def a436 : F := g436.1
theorem e436 : E 436 a436 := K func436 g436.2 (by kernel_rfl)
def g437 : G [] f437 [6] := ⟨_, by funext v; conv => lhs; reduce; try dsimp only [n1, n2, n3]⟩
def a437 : F := g437.1
theorem e437 : E 437 a437 := K func437 g437.2 (by kernel_rfl)
def g438 : G [] f438 [] := ⟨_, by funext v; conv => lhs; reduce; try dsimp only [n1, n2, n3]⟩
def a438 : F := g438.1
theorem e438 : E 438 a438 := K func438 g438.2 (by kernel_rfl)
def g439 : G [(2,[0,2,4,10,12,14,6,15,8,16,18,20,22])] f439 [] := ⟨_, by funext v; conv => lhs; reduce; try dsimp only [n1, n2, n3]⟩
def a439 : F := g439.1
theorem e439 : E 439 a439 := K func439 g439.2 (by kernel_rfl)
def g440 : G [] f440 [] := ⟨_, by funext v; conv => lhs; reduce; try dsimp only [n1, n2, n3]⟩
def a440 : F := g440.1
theorem e440 : E 440 a440 := K func440 g440.2 (by kernel_rfl)
def g441 : G [] f441 [] := ⟨_, by funext v; conv => lhs; reduce; try dsimp only [n1, n2, n3]⟩
def a441 : F := g441.1
theorem e441 : E 441 a441 := K func441 g441.2 (by kernel_rfl)
def g442 : G [] f442 [4] := ⟨_, by funext v; conv => lhs; reduce; try dsimp only [n1, n2, n3]⟩
def a442 : F := g442.1
theorem e442 : E 442 a442 := K func442 g442.2 (by kernel_rfl)
def g443 : G [] f443 [] := ⟨_, by funext v; conv => lhs; reduce; try dsimp only [n1, n2, n3]⟩
def a443 : F := g443.1
theorem e443 : E 443 a443 := K func443 g443.2 (by kernel_rfl)
def g444 : G [] f444 [] := ⟨_, by funext v; conv => lhs; reduce; try dsimp only [n1, n2, n3]⟩
def a444 : F := g444.1
theorem e444 : E 444 a444 := K func444 g444.2 (by kernel_rfl)
def g445 : G [(0,[0,2,4,6,8,10,12,14,16,18,20,22,24,26,28,30,32,9,34,9,36,38,40,42,44,46,48,50])] f445 [] := ⟨_, by funext v; conv => lhs; reduce; try dsimp only [n1, n2, n3]⟩
def a445 : F := g445.1
theorem e445 : E 445 a445 := K func445 g445.2 (by kernel_rfl)
def g447 : G [] f447 [] := ⟨_, by funext v; conv => lhs; reduce; try dsimp only [n1, n2, n3]⟩
def a447 : F := g447.1
theorem e447 : E 447 a447 := K func447 g447.2 (by kernel_rfl)
def g448 : G [] f448 [10] := ⟨_, by funext v; conv => lhs; reduce; try dsimp only [n1, n2, n3]⟩
def a448 : F := g448.1
theorem e448 : E 448 a448 := K func448 g448.2 (by kernel_rfl)
def g449 : G [] f449 [2] := ⟨_, by funext v; conv => lhs; reduce; try dsimp only [n1, n2, n3]⟩
def a449 : F := g449.1
theorem e449 : E 449 a449 := K func449 g449.2 (by kernel_rfl)
def g450 : G [] f450 [] := ⟨_, by funext v; conv => lhs; reduce; try dsimp only [n1, n2, n3]⟩
def a450 : F := g450.1
theorem e450 : E 450 a450 := K func450 g450.2 (by kernel_rfl)
def g451 : G [(1,[0,2,4,6,8,10,12,14,1,16,18,20])] f451 [] := ⟨_, by funext v; conv => lhs; reduce; try dsimp only [n1, n2, n3]⟩
def a451 : F := g451.1
theorem e451 : E 451 a451 := K func451 g451.2 (by kernel_rfl)
def g452 : G [] f452 [2] := ⟨_, by funext v; conv => lhs; reduce; try dsimp only [n1, n2, n3]⟩
def a452 : F := g452.1
theorem e452 : E 452 a452 := K func452 g452.2 (by kernel_rfl)
def g455 : G [(6,[0,2,4,6,8,10,12,16,18,14,19,20,22,24])] f455 [2,3] := ⟨_, by funext v; conv => lhs; reduce; try dsimp only [n1, n2, n3]⟩
def a455 : F := g455.1
theorem e455 : E 455 a455 := K func455 g455.2 (by kernel_rfl)
def g456 : G [] f456 [] := ⟨_, by funext v; conv => lhs; reduce; try dsimp only [n1, n2, n3]⟩
def a456 : F := g456.1
theorem e456 : E 456 a456 := K func456 g456.2 (by kernel_rfl)
def g457 : G [] f457 [8] := ⟨_, by funext v; conv => lhs; reduce; try dsimp only [n1, n2, n3]⟩
def a457 : F := g457.1
theorem e457 : E 457 a457 := K func457 g457.2 (by kernel_rfl)
def g458 : G [] f458 [4] := ⟨_, by funext v; conv => lhs; reduce; try dsimp only [n1, n2, n3]⟩
def a458 : F := g458.1
theorem e458 : E 458 a458 := K func458 g458.2 (by kernel_rfl)
def g459 : G [] f459 [] := ⟨_, by funext v; conv => lhs; reduce; try dsimp only [n1, n2, n3]⟩
def a459 : F := g459.1
theorem e459 : E 459 a459 := K func459 g459.2 (by kernel_rfl)
def g460 : G [(0,[0,2,4,6,10,8,11,12])] f460 [] := ⟨_, by funext v; conv => lhs; reduce; try dsimp only [n1, n2, n3]⟩
def a460 : F := g460.1
theorem e460 : E 460 a460 := K func460 g460.2 (by kernel_rfl)
def g461 : G [] f461 [6] := ⟨_, by funext v; conv => lhs; reduce; try dsimp only [n1, n2, n3]⟩
def a461 : F := g461.1
theorem e461 : E 461 a461 := K func461 g461.2 (by kernel_rfl)
def g462 : G [(2,[0,2,4,10,12,14,18,24,6,15,8,16,20,22,26])] f462 [3] := ⟨_, by funext v; conv => lhs; reduce; try dsimp only [n1, n2, n3]⟩
def a462 : F := g462.1
theorem e462 : E 462 a462 := K func462 g462.2 (by kernel_rfl)
def g463 : G [] f463 [] := ⟨_, by funext v; conv => lhs; reduce; try dsimp only [n1, n2, n3]⟩
def a463 : F := g463.1
theorem e463 : E 463 a463 := K func463 g463.2 (by kernel_rfl)
def g467 : G [] f467 [] := ⟨_, by funext v; conv => lhs; reduce; try dsimp only [n1, n2, n3]⟩
def a467 : F := g467.1
theorem e467 : E 467 a467 := K func467 g467.2 (by kernel_rfl)
def g468 : G [] f468 [4] := ⟨_, by funext v; conv => lhs; reduce; try dsimp only [n1, n2, n3]⟩
def a468 : F := g468.1
theorem e468 : E 468 a468 := K func468 g468.2 (by kernel_rfl)
def g469 : G [] f469 [] := ⟨_, by funext v; conv => lhs; reduce; try dsimp only [n1, n2, n3]⟩
def a469 : F := g469.1
theorem e469 : E 469 a469 := K func469 g469.2 (by kernel_rfl)
def g470 : G [] f470 [4] := ⟨_, by funext v; conv => lhs; reduce; try dsimp only [n1, n2, n3]⟩
def a470 : F := g470.1
theorem e470 : E 470 a470 := K func470 g470.2 (by kernel_rfl)
def g478 : G [] f478 [] := ⟨_, by funext v; conv => lhs; reduce; try dsimp only [n1, n2, n3]⟩
def a478 : F := g478.1
theorem e478 : E 478 a478 := K func478 g478.2 (by kernel_rfl)
def g481 : G [] f481 [4] := ⟨_, by funext v; conv => lhs; reduce; try dsimp only [n1, n2, n3]⟩
def a481 : F := g481.1
theorem e481 : E 481 a481 := K func481 g481.2 (by kernel_rfl)
def g485 : G [(5,[0,2,4,6,8,10,3,12,14,16])] f485 [] := ⟨_, by funext v; conv => lhs; reduce; try dsimp only [n1, n2, n3]⟩
def a485 : F := g485.1
theorem e485 : E 485 a485 := K func485 g485.2 (by kernel_rfl)
def g488 : G [] f488 [] := ⟨_, by funext v; conv => lhs; reduce; try dsimp only [n1, n2, n3]⟩
def a488 : F := g488.1
theorem e488 : E 488 a488 := K func488 g488.2 (by kernel_rfl)
def g491 : G [] f491 [5] := ⟨_, by funext v; conv => lhs; reduce; try dsimp only [n1, n2, n3]⟩
def a491 : F := g491.1
theorem e491 : E 491 a491 := K func491 g491.2 (by kernel_rfl)
def g514 : G [] f514 [] := ⟨_, by funext v; conv => lhs; reduce; try dsimp only [n1, n2, n3]⟩
def a514 : F := g514.1
theorem e514 : E 514 a514 := K func514 g514.2 (by kernel_rfl)
def u514 (v : List AV) := (show a514 v = _ from by unfold a514 g514; dsimp only)
def g515 : G [] f515 [] := ⟨_, by funext v; conv => lhs; reduce; try dsimp only [n1, n2, n3]⟩
def a515 : F := g515.1
theorem e515 : E 515 a515 := K func515 g515.2 (by kernel_rfl)
def g516 : G [] f516 [4] := ⟨_, by funext v; conv => lhs; reduce; try dsimp only [n1, n2, n3]⟩
def a516 : F := g516.1
theorem e516 : E 516 a516 := K func516 g516.2 (by kernel_rfl)
def g517 : G [] f517 [] := ⟨_, by funext v; conv => lhs; reduce; try dsimp only [n1, n2, n3]⟩
def a517 : F := g517.1
theorem e517 : E 517 a517 := K func517 g517.2 (by kernel_rfl)
def g518 : G [] f518 [4] := ⟨_, by funext v; conv => lhs; reduce; try dsimp only [n1, n2, n3]⟩
def a518 : F := g518.1
theorem e518 : E 518 a518 := K func518 g518.2 (by kernel_rfl)
def g519 : GD [] f519 [] := ⟨_, by funext v; conv => lhs; reduce; try dsimp only [n1, n2, n3]⟩
def a519 : F := g519.1
theorem e519 : E 519 a519 := KD func519 g519.2 (by kernel_rfl)
def g520 : G [] f520 [] := ⟨_, by funext v; conv => lhs; reduce; try dsimp only [n1, n2, n3]⟩
def a520 : F := g520.1
theorem e520 : E 520 a520 := K func520 g520.2 (by kernel_rfl)
def g521 : G [] f521 [4] := ⟨_, by funext v; conv => lhs; reduce; try dsimp only [n1, n2, n3]⟩
def a521 : F := g521.1
theorem e521 : E 521 a521 := K func521 g521.2 (by kernel_rfl)
def g522 : G [] f522 [] := ⟨_, by funext v; conv => lhs; reduce; try dsimp only [n1, n2, n3]⟩
def a522 : F := g522.1
theorem e522 : E 522 a522 := K func522 g522.2 (by kernel_rfl)
def g523 : G [] f523 [2] := ⟨_, by funext v; conv => lhs; reduce; try dsimp only [n1, n2, n3]⟩
def a523 : F := g523.1
theorem e523 : E 523 a523 := K func523 g523.2 (by kernel_rfl)
def g524 : G [] f524 [] := ⟨_, by funext v; conv => lhs; reduce; try dsimp only [n1, n2, n3]⟩
def a524 : F := g524.1
theorem e524 : E 524 a524 := K func524 g524.2 (by kernel_rfl)
def g526 : G [] f526 [] := ⟨_, by funext v; conv => lhs; reduce; try dsimp only [n1, n2, n3]⟩
def a526 : F := g526.1
theorem e526 : E 526 a526 := K func526 g526.2 (by kernel_rfl)
def g528 : G [] f528 [] := ⟨_, by funext v; conv => lhs; reduce; try dsimp only [n1, n2, n3]⟩
def a528 : F := g528.1
theorem e528 : E 528 a528 := K func528 g528.2 (by kernel_rfl)
def g529 : G [] f529 [] := ⟨_, by funext v; conv => lhs; reduce; try dsimp only [n1, n2, n3]⟩
def a529 : F := g529.1
theorem e529 : E 529 a529 := K func529 g529.2 (by kernel_rfl)
def g530 : G [] f530 [] := ⟨_, by funext v; conv => lhs; reduce; try dsimp only [n1, n2, n3]⟩
def a530 : F := g530.1
theorem e530 : E 530 a530 := K func530 g530.2 (by kernel_rfl)
def g531 : G [] f531 [] := ⟨_, by funext v; conv => lhs; reduce; try dsimp only [n1, n2, n3]⟩
def a531 : F := g531.1
theorem e531 : E 531 a531 := K func531 g531.2 (by kernel_rfl)
def g532 : G [] f532 [2] := ⟨_, by funext v; conv => lhs; reduce; try dsimp only [n1, n2, n3]⟩
def a532 : F := g532.1
theorem e532 : E 532 a532 := K func532 g532.2 (by kernel_rfl)
def g533 : G [] f533 [] := ⟨_, by funext v; conv => lhs; reduce; try dsimp only [n1, n2, n3]⟩
def a533 : F := g533.1
theorem e533 : E 533 a533 := K func533 g533.2 (by kernel_rfl)
def g534 : G [] f534 [4] := ⟨_, by funext v; conv => lhs; reduce; try dsimp only [n1, n2, n3]⟩
def a534 : F := g534.1
theorem e534 : E 534 a534 := K func534 g534.2 (by kernel_rfl)
def g535 : G [] f535 [2] := ⟨_, by funext v; conv => lhs; reduce; try dsimp only [n1, n2, n3]⟩
def a535 : F := g535.1
theorem e535 : E 535 a535 := K func535 g535.2 (by kernel_rfl)
def g536 : G [(9,[0,2,4,6,8,10,12,14,9,16,18,20,22,24])] f536 [4] := ⟨_, by funext v; conv => lhs; reduce; try dsimp only [n1, n2, n3]⟩
def a536 : F := g536.1
theorem e536 : E 536 a536 := K func536 g536.2 (by kernel_rfl)
def g537 : G [(4,[0,2,4,6,8,10,12,7,14,16,18])] f537 [] := ⟨_, by funext v; conv => lhs; reduce; try dsimp only [n1, n2, n3]⟩
def a537 : F := g537.1
theorem e537 : E 537 a537 := K func537 g537.2 (by kernel_rfl)
end
end Go.Proofs.Tryz
