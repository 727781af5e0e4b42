/- The bodies of functions of this cut, gone through by Lean itself. No condition. -/
import Derived.Test.YtdidccjcbfcklaaGreatT0
set_option linter.unusedVariables false
set_option linter.defProp false
set_option maxRecDepth 100000
set_option maxHeartbeats 0
namespace Go.Proofs.Tryz
noncomputable section
open Go.Abs
open Int renaming ofNat_eq_natCast → n1, cast_ofNat_Int → n2
def g538 : G [] f538 [2,3] := ⟨_, by funext v; conv => lhs; reduce; try dsimp only [n1, n2, n3]⟩
def a538 : F := g538.1
theorem e538 : E 538 a538 := K func538 g538.2 (by kernel_rfl)
def g539 : G [] f539 [4,5] := ⟨_, by funext v; conv => lhs; reduce; try dsimp only [n1, n2, n3]⟩
def a539 : F := g539.1
theorem e539 : E 539 a539 := K func539 g539.2 (by kernel_rfl)
def g540 : G [] f540 [] := ⟨_, by funext v; conv => lhs; reduce; try dsimp only [n1, n2, n3]⟩
def a540 : F := g540.1
theorem e540 : E 540 a540 := K func540 g540.2 (by kernel_rfl)
def g541 : G [] f541 [2] := ⟨_, by funext v; conv => lhs; reduce; try dsimp only [n1, n2, n3]⟩
def a541 : F := g541.1
theorem e541 : E 541 a541 := K func541 g541.2 (by kernel_rfl)
def g542 : G [] f542 [5,10] := ⟨_, by funext v; conv => lhs; reduce; try dsimp only [n1, n2, n3]⟩
def a542 : F := g542.1
theorem e542 : E 542 a542 := K func542 g542.2 (by kernel_rfl)
def g543 : G [] f543 [2] := ⟨_, by funext v; conv => lhs; reduce; try dsimp only [n1, n2, n3]⟩
def a543 : F := g543.1
theorem e543 : E 543 a543 := K func543 g543.2 (by kernel_rfl)
def g544 : G [] f544 [] := ⟨_, by funext v; conv => lhs; reduce; try dsimp only [n1, n2, n3]⟩
def a544 : F := g544.1
theorem e544 : E 544 a544 := K func544 g544.2 (by kernel_rfl)
def g545 : G [] f545 [7] := ⟨_, by funext v; conv => lhs; reduce; try dsimp only [n1, n2, n3]⟩
def a545 : F := g545.1
theorem e545 : E 545 a545 := K func545 g545.2 (by kernel_rfl)
def g546 : G [(21,[0,2,4,6,8,10,12,14,16,18,20,24,26,28,30,32,34,36,38,40,42,22,33,43,44,33,46])] f546 [4,24] := ⟨_, by funext v; conv => lhs; reduce; try dsimp only [n1, n2, n3]⟩
def a546 : F := g546.1
theorem e546 : E 546 a546 := K func546 g546.2 (by kernel_rfl)
def g547 : G [] f547 [] := ⟨_, by funext v; conv => lhs; reduce; try dsimp only [n1, n2, n3]⟩
def a547 : F := g547.1
theorem e547 : E 547 a547 := K func547 g547.2 (by kernel_rfl)
def g548 : G [] f548 [] := ⟨_, by funext v; conv => lhs; reduce; try dsimp only [n1, n2, n3]⟩
def a548 : F := g548.1
theorem e548 : E 548 a548 := K func548 g548.2 (by kernel_rfl)
def g549 : G [(15,[0,2,4,6,8,12,14,16,18,20,22,24,26,10,19,27,28,19,30])] f549 [] := ⟨_, by funext v; conv => lhs; reduce; try dsimp only [n1, n2, n3]⟩
def a549 : F := g549.1
theorem e549 : E 549 a549 := K func549 g549.2 (by kernel_rfl)
def g550 : G [(14,[0,2,4,6,8,10,12,14,16,18,20,22,24,26,28,30,32,36,38,40,42,44,46,48,50,52,54,34,45,55,56,45,58])] f550 [] := ⟨_, by funext v; conv => lhs; reduce; try dsimp only [n1, n2, n3]⟩
def a550 : F := g550.1
theorem e550 : E 550 a550 := K func550 g550.2 (by kernel_rfl)
def g551 : G [] f551 [] := ⟨_, by funext v; conv => lhs; reduce; try dsimp only [n1, n2, n3]⟩
def a551 : F := g551.1
theorem e551 : E 551 a551 := K func551 g551.2 (by kernel_rfl)
def g552 : G [] f552 [] := ⟨_, by funext v; conv => lhs; reduce; try dsimp only [n1, n2, n3]⟩
def a552 : F := g552.1
theorem e552 : E 552 a552 := K func552 g552.2 (by kernel_rfl)
def g553 : G [] f553 [] := ⟨_, by funext v; conv => lhs; reduce; try dsimp only [n1, n2, n3]⟩
def a553 : F := g553.1
theorem e553 : E 553 a553 := K func553 g553.2 (by kernel_rfl)
def g554 : G [] f554 [] := ⟨_, by funext v; conv => lhs; reduce; try dsimp only [n1, n2, n3]⟩
def a554 : F := g554.1
theorem e554 : E 554 a554 := K func554 g554.2 (by kernel_rfl)
def g555 : G [] f555 [] := ⟨_, by funext v; conv => lhs; reduce; try dsimp only [n1, n2, n3]⟩
def a555 : F := g555.1
theorem e555 : E 555 a555 := K func555 g555.2 (by kernel_rfl)
def g556 : G [(19,[0,2,4,6,8,10,12,14,16,18,20,22,13,24,26]),(24,[0,2,4,6,8,10,16,18,20,22,12,23,14,23,24])] f556 [4] := ⟨_, by funext v; conv => lhs; reduce; try dsimp only [n1, n2, n3]⟩
def a556 : F := g556.1
theorem e556 : E 556 a556 := K func556 g556.2 (by kernel_rfl)
def g557 : G [] f557 [2] := ⟨_, by funext v; conv => lhs; reduce; try dsimp only [n1, n2, n3]⟩
def a557 : F := g557.1
theorem e557 : E 557 a557 := K func557 g557.2 (by kernel_rfl)
def g558 : G [] f558 [4] := ⟨_, by funext v; conv => lhs; reduce; try dsimp only [n1, n2, n3]⟩
def a558 : F := g558.1
theorem e558 : E 558 a558 := K func558 g558.2 (by kernel_rfl)
def g559 : G [] f559 [] := ⟨_, by funext v; conv => lhs; reduce; try dsimp only [n1, n2, n3]⟩
def a559 : F := g559.1
theorem e559 : E 559 a559 := K func559 g559.2 (by kernel_rfl)
def g560 : G [] f560 [4] := ⟨_, by funext v; conv => lhs; reduce; try dsimp only [n1, n2, n3]⟩
def a560 : F := g560.1
theorem e560 : E 560 a560 := K func560 g560.2 (by kernel_rfl)
def g561 : G [] f561 [] := ⟨_, by funext v; conv => lhs; reduce; try dsimp only [n1, n2, n3]⟩
def a561 : F := g561.1
theorem e561 : E 561 a561 := K func561 g561.2 (by kernel_rfl)
def g562 : G [] f562 [] := ⟨_, by funext v; conv => lhs; reduce; try dsimp only [n1, n2, n3]⟩
def a562 : F := g562.1
theorem e562 : E 562 a562 := K func562 g562.2 (by kernel_rfl)
def g563 : G [(2,[0,2,4,6,8,10,12,14,18,20,22,24,16,25,26,28,30,32])] f563 [] := ⟨_, by funext v; conv => lhs; reduce; try dsimp only [n1, n2, n3]⟩
def a563 : F := g563.1
theorem e563 : E 563 a563 := K func563 g563.2 (by kernel_rfl)
def g564 : G [] f564 [] := ⟨_, by funext v; conv => lhs; reduce; try dsimp only [n1, n2, n3]⟩
def a564 : F := g564.1
theorem e564 : E 564 a564 := K func564 g564.2 (by kernel_rfl)
def g565 : G [] f565 [4] := ⟨_, by funext v; conv => lhs; reduce; try dsimp only [n1, n2, n3]⟩
def a565 : F := g565.1
theorem e565 : E 565 a565 := K func565 g565.2 (by kernel_rfl)
def g566 : G [] f566 [7] := ⟨_, by funext v; conv => lhs; reduce; try dsimp only [n1, n2, n3]⟩
def a566 : F := g566.1
theorem e566 : E 566 a566 := K func566 g566.2 (by kernel_rfl)
def g567 : G [] f567 [] := ⟨_, by funext v; conv => lhs; reduce; try dsimp only [n1, n2, n3]⟩
def a567 : F := g567.1
theorem e567 : E 567 a567 := K func567 g567.2 (by kernel_rfl)
def g568 : G [] f568 [7] := ⟨_, by funext v; conv => lhs; reduce; try dsimp only [n1, n2, n3]⟩
def a568 : F := g568.1
theorem e568 : E 568 a568 := K func568 g568.2 (by kernel_rfl)
def g569 : G [] f569 [4] := ⟨_, by funext v; conv => lhs; reduce; try dsimp only [n1, n2, n3]⟩
def a569 : F := g569.1
theorem e569 : E 569 a569 := K func569 g569.2 (by kernel_rfl)
def g570 : G [] f570 [7] := ⟨_, by funext v; conv => lhs; reduce; try dsimp only [n1, n2, n3]⟩
def a570 : F := g570.1
theorem e570 : E 570 a570 := K func570 g570.2 (by kernel_rfl)
def g571 : G [] f571 [4] := ⟨_, by funext v; conv => lhs; reduce; try dsimp only [n1, n2, n3]⟩
def a571 : F := g571.1
theorem e571 : E 571 a571 := K func571 g571.2 (by kernel_rfl)
def g572 : G [] f572 [] := ⟨_, by funext v; conv => lhs; reduce; try dsimp only [n1, n2, n3]⟩
def a572 : F := g572.1
theorem e572 : E 572 a572 := K func572 g572.2 (by kernel_rfl)
def g573 : G [(15,[0,2,4,6,8,12,14,16,18,20,22,24,26,10,19,27,28,19,30])] f573 [] := ⟨_, by funext v; conv => lhs; reduce; try dsimp only [n1, n2, n3]⟩
def a573 : F := g573.1
theorem e573 : E 573 a573 := K func573 g573.2 (by kernel_rfl)
def g574 : G [] f574 [] := ⟨_, by funext v; conv => lhs; reduce; try dsimp only [n1, n2, n3]⟩
def a574 : F := g574.1
theorem e574 : E 574 a574 := K func574 g574.2 (by kernel_rfl)
def g575 : G [] f575 [] := ⟨_, by funext v; conv => lhs; reduce; try dsimp only [n1, n2, n3]⟩
def a575 : F := g575.1
theorem e575 : E 575 a575 := K func575 g575.2 (by kernel_rfl)
def g577 : G [] f577 [7] := ⟨_, by funext v; conv => lhs; reduce; try dsimp only [n1, n2, n3]⟩
def a577 : F := g577.1
theorem e577 : E 577 a577 := K func577 g577.2 (by kernel_rfl)
def g579 : G [] f579 [] := ⟨_, by funext v; conv => lhs; reduce; try dsimp only [n1, n2, n3]⟩
def a579 : F := g579.1
theorem e579 : E 579 a579 := K func579 g579.2 (by kernel_rfl)
def g580 : G [] f580 [7] := ⟨_, by funext v; conv => lhs; reduce; try dsimp only [n1, n2, n3]⟩
def a580 : F := g580.1
theorem e580 : E 580 a580 := K func580 g580.2 (by kernel_rfl)
def g581 : G [] f581 [4,13] := ⟨_, by funext v; conv => lhs; reduce; try dsimp only [n1, n2, n3]⟩
def a581 : F := g581.1
theorem e581 : E 581 a581 := K func581 g581.2 (by kernel_rfl)
def g582 : G [] f582 [] := ⟨_, by funext v; conv => lhs; reduce; try dsimp only [n1, n2, n3]⟩
def a582 : F := g582.1
theorem e582 : E 582 a582 := K func582 g582.2 (by kernel_rfl)
def g583 : G [] f583 [7] := ⟨_, by funext v; conv => lhs; reduce; try dsimp only [n1, n2, n3]⟩
def a583 : F := g583.1
theorem e583 : E 583 a583 := K func583 g583.2 (by kernel_rfl)
def a584x0 (v22 : AV) : AC := .op (.bin .eql v22 (I 0)) fun v23=>.ret .ret [v23]
def a584x1 (v0 : List AV) (v16 : AV) : AC := .op (.nilchk (nth v0 0)) fun v17=>.op (.faddr 19 v17) fun v18=>.op (.store 1 v18 v16) fun v19=>.op (.nilchk (nth v0 0)) fun v20=>.op (.faddr 19 v20) fun v21=>.op (.load 1 false v21) fun v22=>(a584x0 v22)
def a584x2 (v0 : List AV) (v9 : AV) : AC := .op (.nilchk (nth v0 0)) fun v11=>.op (.faddr 19 v11) fun v12=>.op (.load 1 false v12) fun v13=>.op (.paddr 13 1 v9 v13) fun v14=>.op (.load 1 false v14) fun v15=>.call v15 [(nth v0 0), (nth v0 1)] fun v16=>(a584x1 v0 v16)
def a584x3 (v0 : List AV) (v1 v6 : AV) : AC := .op (.pick v1 (B true) v6) fun v7=>.ite v7 (.ret .ret [(B true)]) (.call (.fn (.func 585) [] []) [] fun v8=>.op (.alloc (List.replicate 13 Nf)) fun v9=>.op (.store 13 v9 v8) fun v10=>(a584x2 v0 v9))
def a584 : List AV → AC := fun v0=>.op (.eq 619 false (nth v0 0) Np) fun v1=>.gop v1 false (.mv (nth v0 0)) fun v2=>.gop v1 false (.nilchk v2) fun v3=>.gop v1 false (.faddr 19 v3) fun v4=>.gop v1 false (.load 1 false v4) fun v5=>.gop v1 false (.bin .eql v5 (I 0)) fun v6=>(a584x3 v0 v1 v6)
theorem e584 : E 584 a584 := ⟨f584, [4], func584, by kernel_rfl, by kernel_rfl⟩
def a585 : List AV → AC := fun v0=>.fin (.op (.alloc (List.replicate 13 Nf)) fun v1=>.op (.build (List.replicate 13 Nf) [(1, 1, (.fn (.func 586) [] [])), (2, 1, (.fn (.func 587) [] [])), (3, 1, (.fn (.func 588) [] [])), (4, 1, (.fn (.func 589) [] [])), (5, 1, (.fn (.func 590) [] [])), (6, 1, (.fn (.func 591) [] [])), (7, 1, (.fn (.func 592) [] [])), (8, 1, (.fn (.func 593) [] [])), (9, 1, (.fn (.func 594) [] [])), (10, 1, (.fn (.func 595) [] [])), (11, 1, (.fn (.func 596) [] [])), (12, 1, (.fn (.func 597) [] []))]) fun v2=>.op (.store 13 v1 v2) fun v3=>.ret .ret [v1]) fun v1=>.op (.load 13 true (nth v1 0)) fun v2=>.ret .ret [v2]
theorem e585 : E 585 a585 := ⟨f585, [], func585, by kernel_rfl, by kernel_rfl⟩
def g586 : G [] f586 [4] := ⟨_, by funext v; conv => lhs; reduce; try dsimp only [n1, n2, n3]⟩
def a586 : F := g586.1
theorem e586 : E 586 a586 := K func586 g586.2 (by kernel_rfl)
def g587 : G [(6,[0,2,4,6,8,10,12,14,16,18,22,24,26,28,32,20,29,30,34,36,38])] f587 [17,4] := ⟨_, by funext v; conv => lhs; reduce; try dsimp only [n1, n2, n3]⟩
def a587 : F := g587.1
theorem e587 : E 587 a587 := K func587 g587.2 (by kernel_rfl)
def g588 : G [] f588 [4] := ⟨_, by funext v; conv => lhs; reduce; try dsimp only [n1, n2, n3]⟩
def a588 : F := g588.1
theorem e588 : E 588 a588 := K func588 g588.2 (by kernel_rfl)
def g594 : G [] f594 [4] := ⟨_, by funext v; conv => lhs; reduce; try dsimp only [n1, n2, n3]⟩
def a594 : F := g594.1
theorem e594 : E 594 a594 := K func594 g594.2 (by kernel_rfl)
def g596 : G [] f596 [4] := ⟨_, by funext v; conv => lhs; reduce; try dsimp only [n1, n2, n3]⟩
def a596 : F := g596.1
theorem e596 : E 596 a596 := K func596 g596.2 (by kernel_rfl)
def g598 : G [] f598 [] := ⟨_, by funext v; conv => lhs; reduce; try dsimp only [n1, n2, n3]⟩
def a598 : F := g598.1
theorem e598 : E 598 a598 := K func598 g598.2 (by kernel_rfl)
def g599 : G [] f599 [3,9] := ⟨_, by funext v; conv => lhs; reduce; try dsimp only [n1, n2, n3]⟩
def a599 : F := g599.1
theorem e599 : E 599 a599 := K func599 g599.2 (by kernel_rfl)
def g600 : G [(1,[0,2,4,6,8,12,14,16,18,10,19,20,22,24,26,28]),(2,[0,2,4,6,8,10,12,14,16,20,22,24,26,32,34,36,38,42,44,46,48,52,54,56,58,64,66,68,70,18,9,27,39,49,59,71,28,30,40,49,59,71,50,59,71,60,62,72,74])] f600 [] := ⟨_, by funext v; conv => lhs; reduce; try dsimp only [n1, n2, n3]⟩
def a600 : F := g600.1
theorem e600 : E 600 a600 := K func600 g600.2 (by kernel_rfl)
def g601 : G [] f601 [2] := ⟨_, by funext v; conv => lhs; reduce; try dsimp only [n1, n2, n3]⟩
def a601 : F := g601.1
theorem e601 : E 601 a601 := K func601 g601.2 (by kernel_rfl)
def g602 : G [] f602 [] := ⟨_, by funext v; conv => lhs; reduce; try dsimp only [n1, n2, n3]⟩
def a602 : F := g602.1
theorem e602 : E 602 a602 := K func602 g602.2 (by kernel_rfl)
def g604 : G [] f604 [2] := ⟨_, by funext v; conv => lhs; reduce; try dsimp only [n1, n2, n3]⟩
def a604 : F := g604.1
theorem e604 : E 604 a604 := K func604 g604.2 (by kernel_rfl)
def g605 : G [] f605 [3,9] := ⟨_, by funext v; conv => lhs; reduce; try dsimp only [n1, n2, n3]⟩
def a605 : F := g605.1
theorem e605 : E 605 a605 := K func605 g605.2 (by kernel_rfl)
def g606 : G [] f606 [3,9] := ⟨_, by funext v; conv => lhs; reduce; try dsimp only [n1, n2, n3]⟩
def a606 : F := g606.1
theorem e606 : E 606 a606 := K func606 g606.2 (by kernel_rfl)
def g607 : G [] f607 [2] := ⟨_, by funext v; conv => lhs; reduce; try dsimp only [n1, n2, n3]⟩
def a607 : F := g607.1
theorem e607 : E 607 a607 := K func607 g607.2 (by kernel_rfl)
end
end Go.Proofs.Tryz
