/- The bodies of the functions of this cut, gone through ahead, and that each is its function. No condition. -/
import Derived.Test.YtlafihfoofnmaaaGreatT1
set_option linter.unusedVariables false
set_option maxRecDepth 100000
namespace Go.Proofs
open Go.Abs
namespace Tryz
noncomputable section
def a460x0 (b6 : AV) : AC := zl b6 fun b7 => zr [b7]
def a460x1 (v4 v7 b2 : AV) : AC := zf 2 b2 fun b3 => zl b3 fun b4 => zb .geq v7 b4 fun b5 => .ite b5 (zr [(I (-1))]) (zf 0 v4 fun b6 => (a460x0 b6))
def a460x2 (v0 : List AV) (v4 v6 : AV) : AC := zl v6 fun v7 => zn (nth v0 0) fun v8 => zf 0 v8 fun v9 => zf 3 v9 fun b0 => zf 0 b0 fun b1 => zf 0 b1 fun b2 => (a460x1 v4 v7 b2)
def a460 : List AV → AC := fun v0 => zc 236 [(nth v0 1)] fun v1 => .op (.extract 0 v1) fun v2 => .op (.extract 1 v1) fun v3 => .op (.alloc [(I 0), (I 0)]) fun v4 => .op (.store 2 v4 v2) fun v5 => zf 0 v4 fun v6 => (a460x2 v0 v4 v6)
theorem e460 : denFn prog f460 [4] = a460 := by kernel_rfl
def a461x0 (v0 : List AV) : AC := zn (nth v0 0) fun b3 => zf 15 b3 fun b4 => zf 0 b4 fun b5 => zl b5 fun b6 => zb .sub b6 (I 1) fun b7 => zc 386 [(nth v0 0), b7] fun b8 => zr []
def a461x1 (v0 : List AV) (v3 v6 : AV) : AC := zl v6 fun v7 => zn (nth v0 0) fun v8 => zf 15 v8 fun v9 => .op (.load 4 true v9) fun b0 => .op (.saddr 4 v3 v7) fun b1 => .op (.store 4 b1 b0) fun b2 => (a461x0 v0)
def a461 : List AV → AC := fun v0 => zn (nth v0 0) fun v1 => zf 20 v1 fun v2 => zl v2 fun v3 => zn (nth v0 0) fun v4 => zf 15 v4 fun v5 => zf 0 v5 fun v6 => (a461x1 v0 v3 v6)
theorem e461 : denFn prog f461 [] = a461 := by kernel_rfl
def a462x0 (v0 : List AV) (v9 : AV) : AC := .ite v9 (zc 461 [(nth v0 0)] fun b0 => zm []) (zm [])
def a462x1 (v0 : List AV) (v6 : AV) : AC := zl v6 fun v7 => zc 460 [(nth v0 0), v7] fun v8 => zb .lss v8 (I 0) fun v9 => .bind (a462x0 v0 v9) none (fun b0 => zr []) (fun b0 => [])
def a462 : List AV → AC := fun v0 => zn (nth v0 0) fun v1 => zf 14 v1 fun v2 => zs v2 (I 2) fun v3 => zn (nth v0 0) fun v4 => zf 15 v4 fun v5 => zf 3 v5 fun v6 => (a462x1 v0 v6)
theorem e462 : denFn prog f462 [] = a462 := by kernel_rfl
def a463x0 (v0 : List AV) (b7 : AV) : AC := zn (nth v0 0) fun b8 => zf 14 b8 fun b9 => zs b9 b7 fun ba => zr [(.fn (.func 465) [(nth v0 0)] [])]
def a463x1 (v0 : List AV) (v9 b2 : AV) : AC := zn (nth v0 0) fun b3 => zf 13 b3 fun b4 => zl b4 fun b5 => zc 228 [v9, b2] fun b6 => .chk (.load 1 false b4) b5 (zc 246 [b6, b5] fun b7 => (a463x0 v0 b7))
def a463x2 (v0 : List AV) (v6 : AV) : AC := zb .and v6 (U 4294967295) fun v7 => zb .rem v7 (U 3) fun v8 => .op (.conv .i64 v8) fun v9 => zn (nth v0 0) fun b0 => zf 3 b0 fun b1 => .op (.load 10 true b1) fun b2 => (a463x1 v0 v9 b2)
def a463 : List AV → AC := fun v0 => zn (nth v0 0) fun v1 => zf 3 v1 fun v2 => zf 6 v2 fun v3 => zf 0 v3 fun v4 => zl v4 fun v5 => zc 132 [(nth v0 1), v5] fun v6 => (a463x2 v0 v6)
theorem e463 : denFn prog f463 [] = a463 := by kernel_rfl
def a464x0 (v0 : List AV) (v8 : AV) : AC := zn (nth v0 0) fun v9 => zf 0 v9 fun b0 => zs b0 v8 fun b1 => zm []
def a464x1 (v0 : List AV) (v4 : AV) : AC := .ite v4 (zn (nth v0 0) fun v5 => zf 0 v5 fun v6 => zl v6 fun v7 => .call v7 [(nth v0 1)] fun v8 => (a464x0 v0 v8)) (zm [])
def a464x2 (v0 : List AV) : AC := zn (nth v0 0) fun v6 => zf 0 v6 fun v7 => zl v7 fun v8 => .op (.eq 534 false v8 Nf) fun v9 => zr [v9]
def a464 : List AV → AC := fun v0 => zn (nth v0 0) fun v1 => zf 0 v1 fun v2 => zl v2 fun v3 => .op (.eq 534 true v3 Nf) fun v4 => .bind (a464x1 v0 v4) none (fun v5 => (a464x2 v0)) (fun v5 => [(B false)])
theorem e464 : denFn prog f464 [] = a464 := by kernel_rfl
def a465 : List AV → AC := fun v0 => zn (nth v0 0) fun v1 => zf 14 v1 fun v2 => zl v2 fun v3 => zc 345 [v3, (nth v0 1)] fun v4 => .ite v4 (zr [Nf]) (zr [(.fn (.func 465) [(nth v0 0)] [])])
theorem e465 : denFn prog f465 [4] = a465 := by kernel_rfl
def a466x0 (v0 : List AV) (v8 : AV) : AC := zn (nth v0 0) fun v9 => zf 3 v9 fun b0 => zs b0 v8 fun b1 => zn (nth v0 0) fun b2 => zf 4 b2 fun b3 => zs b3 (B true) fun b4 => zm []
def a466x1 (v0 : List AV) (v4 : AV) : AC := .ite v4 (zn (nth v0 0) fun v5 => zf 0 v5 fun v6 => zl v6 fun v7 => .call v7 [] fun v8 => (a466x0 v0 v8)) (zm [])
def a466x2 (b6 b9 : AV) : AC := .call b6 [b9] fun ba => zm [ba]
def a466x3 (v0 : List AV) : AC := zn (nth v0 0) fun b4 => zf 1 b4 fun b5 => zl b5 fun b6 => zn (nth v0 0) fun b7 => zf 3 b7 fun b8 => zl b8 fun b9 => (a466x2 b6 b9)
def a466x4 (bd be : AV) : AC := zf 3 be fun bf => zl bf fun bg => .call bd [bg] fun bh => zm []
def a466x5 (v0 : List AV) (ba : AV) : AC := .ite ba (zn (nth v0 0) fun bb => zf 2 bb fun bc => zl bc fun bd => zn (nth v0 0) fun be => (a466x4 bd be)) (zm [])
def a466x6 (v0 : List AV) (v9 : AV) (b4 : List AV) (b5 : AV) : AC := zt v9 (.nilchk b5) fun b6 => zt v9 (.faddr 2 b6) fun b7 => zt v9 (.load 1 false b7) fun b8 => zt v9 (.eq 425 true b8 Nf) fun b9 => zi v9 b9 (B false) fun ba => .bind (a466x5 v0 ba) none (fun bb => zr [v9, (nth b4 0)]) (fun bb => [(B false), (U 0)])
def a466x7 (v0 : List AV) (v9 b1 : AV) : AC := zl b1 fun b2 => .op (.eq 426 true b2 Nf) fun b3 => .bind (.ite b3 (a466x3 v0) (zm [(U 0)])) none (fun b4 => zt v9 (.mv (nth v0 0)) fun b5 => (a466x6 v0 v9 b4 b5)) (fun b4 => [(B false), (U 0)])
def a466x8 (v0 : List AV) : AC := zn (nth v0 0) fun v6 => zf 3 v6 fun v7 => zl v7 fun v8 => .call (.fn (.method "Step") [] []) [(.iface 422 v8), (nth v0 1)] fun v9 => zn (nth v0 0) fun b0 => zf 1 b0 fun b1 => (a466x7 v0 v9 b1)
def a466 : List AV → AC := fun v0 => zn (nth v0 0) fun v1 => zf 4 v1 fun v2 => zl v2 fun v3 => .op (.un .not v3) fun v4 => .bind (a466x1 v0 v4) none (fun v5 => (a466x8 v0)) (fun v5 => [(B false), (U 0)])
theorem e466 : denFn prog f466 [7] = a466 := by kernel_rfl
def a467x0 (v1 v6 : AV) : AC := zi v1 (B true) v6 fun v7 => zr [v7]
def a467 : List AV → AC := fun v0 => .op (.eq 422 false (nth v0 0) Np) fun v1 => zu v1 (.mv (nth v0 0)) fun v2 => zu v1 (.nilchk v2) fun v3 => zu v1 (.faddr 0 v3) fun v4 => zu v1 (.mv (nth v0 1)) fun v5 => .gcall v1 false (zF 382) [v4, v5] fun v6 => (a467x0 v1 v6)
theorem e467 : denFn prog f467 [] = a467 := by kernel_rfl
def a468x0 (v0 : List AV) (v8 : AV) : AC := zn (nth v0 0) fun v9 => zf 3 v9 fun b0 => zs b0 v8 fun b1 => zn (nth v0 0) fun b2 => zf 4 b2 fun b3 => zs b3 (B true) fun b4 => zm []
def a468x1 (v0 : List AV) (v4 : AV) : AC := .ite v4 (zn (nth v0 0) fun v5 => zf 0 v5 fun v6 => zl v6 fun v7 => .call v7 [] fun v8 => (a468x0 v0 v8)) (zm [])
def a468x2 (b6 b9 : AV) : AC := .call b6 [b9] fun ba => zm [ba]
def a468x3 (v0 : List AV) : AC := zn (nth v0 0) fun b4 => zf 1 b4 fun b5 => zl b5 fun b6 => zn (nth v0 0) fun b7 => zf 3 b7 fun b8 => zl b8 fun b9 => (a468x2 b6 b9)
def a468x4 (bd be : AV) : AC := zf 3 be fun bf => zl bf fun bg => .call bd [bg] fun bh => zm []
def a468x5 (v0 : List AV) (ba : AV) : AC := .ite ba (zn (nth v0 0) fun bb => zf 2 bb fun bc => zl bc fun bd => zn (nth v0 0) fun be => (a468x4 bd be)) (zm [])
def a468x6 (v0 : List AV) (v9 : AV) (b4 : List AV) (b5 : AV) : AC := zt v9 (.nilchk b5) fun b6 => zt v9 (.faddr 2 b6) fun b7 => zt v9 (.load 1 false b7) fun b8 => zt v9 (.eq 433 true b8 Nf) fun b9 => zi v9 b9 (B false) fun ba => .bind (a468x5 v0 ba) none (fun bb => zr [v9, (nth b4 0)]) (fun bb => [(B false), (U 0)])
def a468x7 (v0 : List AV) (v9 b1 : AV) : AC := zl b1 fun b2 => .op (.eq 434 true b2 Nf) fun b3 => .bind (.ite b3 (a468x3 v0) (zm [(U 0)])) none (fun b4 => zt v9 (.mv (nth v0 0)) fun b5 => (a468x6 v0 v9 b4 b5)) (fun b4 => [(B false), (U 0)])
def a468x8 (v0 : List AV) : AC := zn (nth v0 0) fun v6 => zf 3 v6 fun v7 => zl v7 fun v8 => .call (.fn (.method "Step") [] []) [(.iface 430 v8), (nth v0 1)] fun v9 => zn (nth v0 0) fun b0 => zf 1 b0 fun b1 => (a468x7 v0 v9 b1)
def a468 : List AV → AC := fun v0 => zn (nth v0 0) fun v1 => zf 4 v1 fun v2 => zl v2 fun v3 => .op (.un .not v3) fun v4 => .bind (a468x1 v0 v4) none (fun v5 => (a468x8 v0)) (fun v5 => [(B false), (U 0)])
theorem e468 : denFn prog f468 [7] = a468 := by kernel_rfl
def a469x0 (v0 : List AV) (b0 : AV) : AC := .call b0 [(nth v0 0), (nth v0 1)] fun b1 => zn (nth v0 0) fun b2 => zf 8 b2 fun b3 => zl b3 fun b4 => .op (.eq 476 false b4 Nf) fun b5 => zr [b5]
def a469x1 (v0 : List AV) (v1 v6 : AV) : AC := zi v1 (B true) v6 fun v7 => .ite v7 (zr [(B true)]) (zn (nth v0 0) fun v8 => zf 8 v8 fun v9 => zl v9 fun b0 => (a469x0 v0 b0))
def a469 : List AV → AC := fun v0 => .op (.eq 430 false (nth v0 0) Np) fun v1 => zu v1 (.mv (nth v0 0)) fun v2 => zu v1 (.nilchk v2) fun v3 => zu v1 (.faddr 8 v3) fun v4 => zu v1 (.load 1 false v4) fun v5 => zu v1 (.eq 476 false v5 Nf) fun v6 => (a469x1 v0 v1 v6)
theorem e469 : denFn prog f469 [4] = a469 := by kernel_rfl
def a470x0 (v0 : List AV) (v8 : AV) : AC := zn (nth v0 0) fun v9 => zf 3 v9 fun b0 => zs b0 v8 fun b1 => zn (nth v0 0) fun b2 => zf 4 b2 fun b3 => zs b3 (B true) fun b4 => zm []
def a470x1 (v0 : List AV) (v4 : AV) : AC := .ite v4 (zn (nth v0 0) fun v5 => zf 0 v5 fun v6 => zl v6 fun v7 => .call v7 [] fun v8 => (a470x0 v0 v8)) (zm [])
def a470x2 (b6 b9 : AV) : AC := .call b6 [b9] fun ba => zm [ba]
def a470x3 (v0 : List AV) : AC := zn (nth v0 0) fun b4 => zf 1 b4 fun b5 => zl b5 fun b6 => zn (nth v0 0) fun b7 => zf 3 b7 fun b8 => zl b8 fun b9 => (a470x2 b6 b9)
def a470x4 (bd be : AV) : AC := zf 3 be fun bf => zl bf fun bg => .call bd [bg] fun bh => zm []
def a470x5 (v0 : List AV) (ba : AV) : AC := .ite ba (zn (nth v0 0) fun bb => zf 2 bb fun bc => zl bc fun bd => zn (nth v0 0) fun be => (a470x4 bd be)) (zm [])
def a470x6 (v0 : List AV) (v9 : AV) (b4 : List AV) (b5 : AV) : AC := zt v9 (.nilchk b5) fun b6 => zt v9 (.faddr 2 b6) fun b7 => zt v9 (.load 1 false b7) fun b8 => zt v9 (.eq 443 true b8 Nf) fun b9 => zi v9 b9 (B false) fun ba => .bind (a470x5 v0 ba) none (fun bb => zr [v9, (nth b4 0)]) (fun bb => [(B false), (U 0)])
def a470x7 (v0 : List AV) (v9 b1 : AV) : AC := zl b1 fun b2 => .op (.eq 442 true b2 Nf) fun b3 => .bind (.ite b3 (a470x3 v0) (zm [(U 0)])) none (fun b4 => zt v9 (.mv (nth v0 0)) fun b5 => (a470x6 v0 v9 b4 b5)) (fun b4 => [(B false), (U 0)])
def a470x8 (v0 : List AV) : AC := zn (nth v0 0) fun v6 => zf 3 v6 fun v7 => zl v7 fun v8 => .call (.fn (.method "Step") [] []) [(.iface 439 v8), (nth v0 1)] fun v9 => zn (nth v0 0) fun b0 => zf 1 b0 fun b1 => (a470x7 v0 v9 b1)
def a470 : List AV → AC := fun v0 => zn (nth v0 0) fun v1 => zf 4 v1 fun v2 => zl v2 fun v3 => .op (.un .not v3) fun v4 => .bind (a470x1 v0 v4) none (fun v5 => (a470x8 v0)) (fun v5 => [(B false), (U 0)])
theorem e470 : denFn prog f470 [7] = a470 := by kernel_rfl
def a471x0 (bb : AV) : AC := zf 13 bb fun bc => zs bc (I 5) fun bd => zm []
def a471x1 (v0 : List AV) (b4 b5 : AV) : AC := zf 0 b5 fun b6 => zf 17 b6 fun b7 => zf 0 b7 fun b8 => zs b8 b4 fun b9 => zn (nth v0 0) fun ba => zf 0 ba fun bb => (a471x0 bb)
def a471x2 (b6 : AV) : AC := zf 0 b6 fun b7 => zf 13 b7 fun b8 => zs b8 (I 99) fun b9 => zm []
def a471x3 (v0 : List AV) (b2 : AV) : AC := .ite b2 (zn (nth v0 0) fun b3 => zf 0 b3 fun b4 => zc 474 [b4, (nth v0 1)] fun b5 => zn (nth v0 0) fun b6 => (a471x2 b6)) (zn (nth v0 0) fun b3 => zf 0 b3 fun b4 => zc 473 [b4, (nth v0 1)] fun b5 => zm [])
def a471x4 (v0 : List AV) (b0 b1 : AV) : AC := .ite b1 (zn (nth v0 0) fun b2 => zf 0 b2 fun b3 => zc 475 [b3, (nth v0 1), (I 0)] fun b4 => zn (nth v0 0) fun b5 => (a471x1 v0 b4 b5)) (zb .eql b0 (I 5) fun b2 => .bind (a471x3 v0 b2) none (fun b3 => zm []) (fun b3 => []))
def a471x5 (b4 : AV) : AC := zl b4 fun b5 => zb .eql b5 (I 99) fun b6 => zr [b6]
def a471x6 (v0 : List AV) (b0 : AV) : AC := .bind (zb .eql b0 (I 4) fun b1 => .bind (a471x4 v0 b0 b1) none (fun b2 => zm []) (fun b2 => [])) (some 0) (fun b1 => zn (nth v0 0) fun b2 => zf 0 b2 fun b3 => zf 13 b3 fun b4 => (a471x5 b4)) (fun b1 => [(B false)])
def a471x7 (v0 : List AV) (v6 : AV) : AC := .ite v6 (zr [(B true)]) (zn (nth v0 0) fun v7 => zf 0 v7 fun v8 => zf 13 v8 fun v9 => zl v9 fun b0 => (a471x6 v0 b0))
def a471 : List AV → AC := fun v0 => .op (.eq 439 false (nth v0 0) Np) fun v1 => zu v1 (.mv (nth v0 0)) fun v2 => zu v1 (.nilchk v2) fun v3 => zu v1 (.faddr 0 v3) fun v4 => .gcall v1 false (zF 472) [v4] fun v5 => zi v1 (B true) v5 fun v6 => (a471x7 v0 v6)
theorem e471 : denFn prog f471 [4] = a471 := by kernel_rfl
def a472x0 (v4 v6 : AV) : AC := zu v4 (.faddr 13 v6) fun v7 => zu v4 (.load 1 false v7) fun v8 => zu v4 (.bin .eql v8 (I 99)) fun v9 => zi v4 (B true) v9 fun b0 => zr [b0]
def a472 : List AV → AC := fun v0 => zn (nth v0 0) fun v1 => zf 20 v1 fun v2 => zl v2 fun v3 => .op (.un .not v3) fun v4 => zu v4 (.mv (nth v0 0)) fun v5 => zu v4 (.nilchk v5) fun v6 => (a472x0 v4 v6)
theorem e472 : denFn prog f472 [] = a472 := by kernel_rfl
def a473x0 (c8 : AV) : AC := zf 21 c8 fun c9 => zs c9 (I 15) fun ca => zm []
def a473x1 (v0 : List AV) (c4 : AV) : AC := .ite c4 (zn (nth v0 0) fun c5 => zf 13 c5 fun c6 => zs c6 (I 99) fun c7 => zn (nth v0 0) fun c8 => (a473x0 c8)) (zm [])
def a473x2 (v0 : List AV) (bp bt c1 : AV) : AC := zu bp (.load 1 false c1) fun c2 => zu bp (.bin .geq bt c2) fun c3 => zi bp (B true) c3 fun c4 => .bind (a473x1 v0 c4) none (fun c5 => zm []) (fun c5 => [])
def a473x3 (v0 : List AV) (bp bt bu : AV) : AC := zu bp (.nilchk bu) fun bv => zu bp (.faddr 0 bv) fun bw => zu bp (.faddr 3 bw) fun bx => zu bp (.faddr 0 bx) fun bz => zu bp (.faddr 0 bz) fun c0 => zu bp (.faddr 2 c0) fun c1 => (a473x2 v0 bp bt c1)
def a473x4 (v0 : List AV) (bo : AV) : AC := zb .lss bo (I 0) fun bp => zu bp (.mv (nth v0 0)) fun bq => zu bp (.nilchk bq) fun br => zu bp (.faddr 15 br) fun bs => zu bp (.load 1 false bs) fun bt => zu bp (.mv (nth v0 0)) fun bu => (a473x3 v0 bp bt bu)
def a473x5 (v0 : List AV) : AC := zn (nth v0 0) fun bj => zf 13 bj fun bk => zs bk (I 2) fun bl => zn (nth v0 0) fun bm => zf 15 bm fun bn => zl bn fun bo => (a473x4 v0 bo)
def a473x6 (v0 : List AV) (ba bc : AV) : AC := .op (.store 2 bc ba) fun bd => zf 0 bc fun be => zl be fun bf => zn (nth v0 0) fun bg => zf 15 bg fun bh => zs bh bf fun bi => (a473x5 v0)
def a473x7 (v0 : List AV) (b6 : AV) : AC := zf 14 b6 fun b7 => zl b7 fun b8 => zc 236 [b8] fun b9 => .op (.extract 0 b9) fun ba => .op (.extract 1 b9) fun bb => .op (.alloc [(I 0), (I 0)]) fun bc => (a473x6 v0 ba bc)
def a473x8 (v0 : List AV) (b0 : AV) : AC := zc 88 [b0, (I (-1)), (I 0)] fun b1 => zc 132 [(nth v0 1), b1] fun b2 => zn (nth v0 0) fun b3 => zf 14 b3 fun b4 => zs b4 b2 fun b5 => zn (nth v0 0) fun b6 => (a473x7 v0 b6)
def a473x9 (v0 : List AV) : AC := zn (nth v0 0) fun v5 => zf 19 v5 fun v6 => zs v6 (U 0) fun v7 => zn (nth v0 0) fun v8 => zf 0 v8 fun v9 => .op (.load 13 true v9) fun b0 => (a473x8 v0 b0)
def a473x10 (v0 : List AV) (b6 : AV) : AC := .ite b6 (zn (nth v0 0) fun b7 => zf 13 b7 fun b8 => zs b8 (I 3) fun b9 => zm []) (zm [])
def a473x11 (v0 : List AV) (b1 : AV) : AC := zs b1 (I 4) fun b2 => zn (nth v0 0) fun b3 => zf 16 b3 fun b4 => zl b4 fun b5 => zc 452 [b5] fun b6 => .bind (a473x10 v0 b6) none (fun b7 => zm []) (fun b7 => [])
def a473x12 (v0 : List AV) : AC := zc 475 [(nth v0 0), (nth v0 1), (I 4)] fun v6 => zn (nth v0 0) fun v7 => zf 16 v7 fun v8 => zs v8 v6 fun v9 => zn (nth v0 0) fun b0 => zf 13 b0 fun b1 => (a473x11 v0 b1)
def a473x13 (v0 : List AV) : AC := zn (nth v0 0) fun bc => zf 13 bc fun bd => zs bd (I 1) fun be => zm []
def a473x14 (v0 : List AV) (b2 b4 b5 b7 b8 : AV) : AC := zc 88 [b2, (I (-1)), (I 0)] fun b9 => .chk (.load 1 false b4) b5 (.chk (.load 1 false b7) b8 (zc 453 [b8, (B false)] fun ba => .chk (.load 1 false b4) b5 (zc 285 [(nth v0 1), b9, b5, ba] fun bb => (a473x13 v0))))
def a473x15 (v0 : List AV) (b2 : AV) : AC := zn (nth v0 0) fun b3 => zf 14 b3 fun b4 => zl b4 fun b5 => zn (nth v0 0) fun b6 => zf 16 b6 fun b7 => zl b7 fun b8 => (a473x14 v0 b2 b4 b5 b7 b8)
def a473x16 (v0 : List AV) : AC := zn (nth v0 0) fun v7 => zf 19 v7 fun v8 => zs v8 (U 0) fun v9 => zn (nth v0 0) fun b0 => zf 0 b0 fun b1 => .op (.load 13 true b1) fun b2 => (a473x15 v0 b2)
def a473x17 (v0 : List AV) (v3 : AV) : AC := zb .eql v3 (I 3) fun v6 => .bind (.ite v6 (a473x16 v0) (zm [])) none (fun v7 => zm []) (fun v7 => [])
def a473x18 (v0 : List AV) (v3 : AV) : AC := zb .eql v3 (I 2) fun v5 => .bind (.ite v5 (a473x12 v0) (a473x17 v0 v3)) none (fun v6 => zm []) (fun v6 => [])
def a473x19 (v0 : List AV) (v3 : AV) : AC := zb .eql v3 (I 1) fun v4 => .bind (.ite v4 (a473x9 v0) (a473x18 v0 v3)) none (fun v5 => zm []) (fun v5 => [])
def a473 : List AV → AC := fun v0 => zn (nth v0 0) fun v1 => zf 13 v1 fun v2 => zl v2 fun v3 => .bind (a473x19 v0 v3) (some 0) (fun v4 => zr []) (fun v4 => [])
theorem e473 : denFn prog f473 [] = a473 := by kernel_rfl
def a474x0 (v3 v6 : AV) : AC := zs v6 v3 fun v7 => zr []
def a474 : List AV → AC := fun v0 => zc 475 [(nth v0 0), (nth v0 1), (I 1)] fun v1 => zb .and v1 (U 65535) fun v2 => .op (.conv .i64 v2) fun v3 => zn (nth v0 0) fun v4 => zf 17 v4 fun v5 => zf 1 v5 fun v6 => (a474x0 v3 v6)
theorem e474 : denFn prog f474 [] = a474 := by kernel_rfl
def a475x0 (v0 : List AV) (v9 b2 : AV) : AC := zc 29 [v9, b2, (nth v0 2)] fun b3 => zc 132 [(nth v0 1), b3] fun b4 => zr [b4]
def a475x1 (v0 : List AV) : AC := zn (nth v0 0) fun v7 => zf 0 v7 fun v8 => .op (.load 13 true v8) fun v9 => zn (nth v0 0) fun b0 => zf 15 b0 fun b1 => zl b1 fun b2 => (a475x0 v0 v9 b2)
def a475 : List AV → AC := fun v0 => zn (nth v0 0) fun v1 => zf 14 v1 fun v2 => zl v2 fun v3 => zn (nth v0 0) fun v4 => zf 19 v4 fun v5 => zs v5 v3 fun v6 => (a475x1 v0)
theorem e475 : denFn prog f475 [] = a475 := by kernel_rfl
def a477x0 (v0 : List AV) (v8 : AV) : AC := zn (nth v0 0) fun v9 => zf 3 v9 fun b0 => zs b0 v8 fun b1 => zn (nth v0 0) fun b2 => zf 4 b2 fun b3 => zs b3 (B true) fun b4 => zm []
def a477x1 (v0 : List AV) (v4 : AV) : AC := .ite v4 (zn (nth v0 0) fun v5 => zf 0 v5 fun v6 => zl v6 fun v7 => .call v7 [] fun v8 => (a477x0 v0 v8)) (zm [])
def a477x2 (b6 b9 : AV) : AC := .call b6 [b9] fun ba => zm [ba]
def a477x3 (v0 : List AV) : AC := zn (nth v0 0) fun b4 => zf 1 b4 fun b5 => zl b5 fun b6 => zn (nth v0 0) fun b7 => zf 3 b7 fun b8 => zl b8 fun b9 => (a477x2 b6 b9)
def a477x4 (bd be : AV) : AC := zf 3 be fun bf => zl bf fun bg => .call bd [bg] fun bh => zm []
def a477x5 (v0 : List AV) (ba : AV) : AC := .ite ba (zn (nth v0 0) fun bb => zf 2 bb fun bc => zl bc fun bd => zn (nth v0 0) fun be => (a477x4 bd be)) (zm [])
def a477x6 (v0 : List AV) (v9 : AV) (b4 : List AV) (b5 : AV) : AC := zt v9 (.nilchk b5) fun b6 => zt v9 (.faddr 2 b6) fun b7 => zt v9 (.load 1 false b7) fun b8 => zt v9 (.eq 462 true b8 Nf) fun b9 => zi v9 b9 (B false) fun ba => .bind (a477x5 v0 ba) none (fun bb => zr [v9, (nth b4 0)]) (fun bb => [(B false), (U 0)])
def a477x7 (v0 : List AV) (v9 b1 : AV) : AC := zl b1 fun b2 => .op (.eq 461 true b2 Nf) fun b3 => .bind (.ite b3 (a477x3 v0) (zm [(U 0)])) none (fun b4 => zt v9 (.mv (nth v0 0)) fun b5 => (a477x6 v0 v9 b4 b5)) (fun b4 => [(B false), (U 0)])
def a477x8 (v0 : List AV) : AC := zn (nth v0 0) fun v6 => zf 3 v6 fun v7 => zl v7 fun v8 => .call (.fn (.method "Step") [] []) [(.iface 458 v8), (nth v0 1)] fun v9 => zn (nth v0 0) fun b0 => zf 1 b0 fun b1 => (a477x7 v0 v9 b1)
def a477 : List AV → AC := fun v0 => zn (nth v0 0) fun v1 => zf 4 v1 fun v2 => zl v2 fun v3 => .op (.un .not v3) fun v4 => .bind (a477x1 v0 v4) none (fun v5 => (a477x8 v0)) (fun v5 => [(B false), (U 0)])
theorem e477 : denFn prog f477 [7] = a477 := by kernel_rfl
def a479x0 (v1 v6 : AV) : AC := zi v1 (B true) v6 fun v7 => zr [v7]
def a479 : List AV → AC := fun v0 => .op (.eq 458 false (nth v0 0) Np) fun v1 => zu v1 (.mv (nth v0 0)) fun v2 => zu v1 (.nilchk v2) fun v3 => zu v1 (.faddr 0 v3) fun v4 => zu v1 (.mv (nth v0 1)) fun v5 => .gcall v1 false (zF 382) [v4, v5] fun v6 => (a479x0 v1 v6)
theorem e479 : denFn prog f479 [] = a479 := by kernel_rfl
def a480x0 (v0 : List AV) (v8 : AV) : AC := zn (nth v0 0) fun v9 => zf 3 v9 fun b0 => zs b0 v8 fun b1 => zn (nth v0 0) fun b2 => zf 4 b2 fun b3 => zs b3 (B true) fun b4 => zm []
def a480x1 (v0 : List AV) (v4 : AV) : AC := .ite v4 (zn (nth v0 0) fun v5 => zf 0 v5 fun v6 => zl v6 fun v7 => .call v7 [] fun v8 => (a480x0 v0 v8)) (zm [])
def a480x2 (b6 b9 : AV) : AC := .call b6 [b9] fun ba => zm [ba]
def a480x3 (v0 : List AV) : AC := zn (nth v0 0) fun b4 => zf 1 b4 fun b5 => zl b5 fun b6 => zn (nth v0 0) fun b7 => zf 3 b7 fun b8 => zl b8 fun b9 => (a480x2 b6 b9)
def a480x4 (bd be : AV) : AC := zf 3 be fun bf => zl bf fun bg => .call bd [bg] fun bh => zm []
def a480x5 (v0 : List AV) (ba : AV) : AC := .ite ba (zn (nth v0 0) fun bb => zf 2 bb fun bc => zl bc fun bd => zn (nth v0 0) fun be => (a480x4 bd be)) (zm [])
def a480x6 (v0 : List AV) (v9 : AV) (b4 : List AV) (b5 : AV) : AC := zt v9 (.nilchk b5) fun b6 => zt v9 (.faddr 2 b6) fun b7 => zt v9 (.load 1 false b7) fun b8 => zt v9 (.eq 497 true b8 Nf) fun b9 => zi v9 b9 (B false) fun ba => .bind (a480x5 v0 ba) none (fun bb => zr [v9, (nth b4 0)]) (fun bb => [(B false), (U 0)])
def a480x7 (v0 : List AV) (v9 b1 : AV) : AC := zl b1 fun b2 => .op (.eq 496 true b2 Nf) fun b3 => .bind (.ite b3 (a480x3 v0) (zm [(U 0)])) none (fun b4 => zt v9 (.mv (nth v0 0)) fun b5 => (a480x6 v0 v9 b4 b5)) (fun b4 => [(B false), (U 0)])
def a480x8 (v0 : List AV) : AC := zn (nth v0 0) fun v6 => zf 3 v6 fun v7 => zl v7 fun v8 => .call (.fn (.method "Step") [] []) [(.iface 493 v8), (nth v0 1)] fun v9 => zn (nth v0 0) fun b0 => zf 1 b0 fun b1 => (a480x7 v0 v9 b1)
def a480 : List AV → AC := fun v0 => zn (nth v0 0) fun v1 => zf 4 v1 fun v2 => zl v2 fun v3 => .op (.un .not v3) fun v4 => .bind (a480x1 v0 v4) none (fun v5 => (a480x8 v0)) (fun v5 => [(B false), (U 0)])
theorem e480 : denFn prog f480 [7] = a480 := by kernel_rfl
def a481x0 (v0 : List AV) (v7 : AV) : AC := .call v7 [(nth v0 1)] fun b2 => .ret (.exit 0) []
def a481x1 (v0 : List AV) (v4 : AV) (v5 : List AV) : AC := .op (.aidx 4 1 false v4 (nth v5 0)) fun v7 => zn (nth v0 0) fun v8 => zf 6 v8 fun v9 => zl v9 fun b0 => zb .eql (nth v5 0) b0 fun b1 => .ite b1 (a481x0 v0 v7) (zm [])
def a481x2 (v5 : List AV) : AC := zb .add (nth v5 0) (I 1) fun v8 => zm [v8]
def a481x3 (v0 : List AV) (v4 : AV) (v5 : List AV) : AC := zb .lss (nth v5 0) (I 4) fun v6 => .ite v6 (.bind (a481x1 v0 v4 v5) (some 1) (fun v7 => (a481x2 v5)) (fun v7 => [(nth v5 0)])) (.ret (.exit 0) [(nth v5 0)])
def a481x4 (v0 : List AV) (v8 : AV) : AC := zb .add v8 (I 1) fun v9 => zn (nth v0 0) fun b0 => zf 6 b0 fun b1 => zs b1 v9 fun b2 => zc 482 [(nth v0 0)] fun b3 => zr [b3]
def a481x5 (v0 : List AV) (v4 : AV) : AC := .bind (.loop [(I 0)] (fun v5 => (a481x3 v0 v4 v5)) (fun v5 => [(nth v5 0)])) (some 0) (fun v5 => zn (nth v0 0) fun v6 => zf 6 v6 fun v7 => zl v7 fun v8 => (a481x4 v0 v8)) (fun v5 => [(B false)])
def a481 : List AV → AC := fun v0 => zc 482 [(nth v0 0)] fun v1 => .ite v1 (zr [(B true)]) (zn (nth v0 0) fun v2 => zf 2 v2 fun v3 => .op (.load 4 true v3) fun v4 => (a481x5 v0 v4))
theorem e481 : denFn prog f481 [4, 13] = a481 := by kernel_rfl
def a482x0 (v7 b2 : AV) : AC := zi v7 (B true) b2 fun b3 => zr [b3]
def a482x1 (v0 : List AV) (v1 v6 : AV) : AC := zi v1 (B true) v6 fun v7 => zu v7 (.mv (nth v0 0)) fun v8 => zu v7 (.nilchk v8) fun v9 => zu v7 (.faddr 6 v9) fun b0 => zu v7 (.load 1 false b0) fun b1 => zu v7 (.bin .eql b1 (I 4)) fun b2 => (a482x0 v7 b2)
def a482 : List AV → AC := fun v0 => .op (.eq 493 false (nth v0 0) Np) fun v1 => zu v1 (.mv (nth v0 0)) fun v2 => zu v1 (.nilchk v2) fun v3 => zu v1 (.faddr 0 v3) fun v4 => zu v1 (.load 1 false v4) fun v5 => zu v1 (.un .not v5) fun v6 => (a482x1 v0 v1 v6)
theorem e482 : denFn prog f482 [] = a482 := by kernel_rfl
def a483x0 (v0 : List AV) (v8 : AV) : AC := zn (nth v0 0) fun v9 => zf 3 v9 fun b0 => zs b0 v8 fun b1 => zn (nth v0 0) fun b2 => zf 4 b2 fun b3 => zs b3 (B true) fun b4 => zm []
def a483x1 (v0 : List AV) (v4 : AV) : AC := .ite v4 (zn (nth v0 0) fun v5 => zf 0 v5 fun v6 => zl v6 fun v7 => .call v7 [] fun v8 => (a483x0 v0 v8)) (zm [])
def a483x2 (b6 b9 : AV) : AC := .call b6 [b9] fun ba => zm [ba]
def a483x3 (v0 : List AV) : AC := zn (nth v0 0) fun b4 => zf 1 b4 fun b5 => zl b5 fun b6 => zn (nth v0 0) fun b7 => zf 3 b7 fun b8 => zl b8 fun b9 => (a483x2 b6 b9)
def a483x4 (bd be : AV) : AC := zf 3 be fun bf => zl bf fun bg => .call bd [bg] fun bh => zm []
def a483x5 (v0 : List AV) (ba : AV) : AC := .ite ba (zn (nth v0 0) fun bb => zf 2 bb fun bc => zl bc fun bd => zn (nth v0 0) fun be => (a483x4 bd be)) (zm [])
def a483x6 (v0 : List AV) (v9 : AV) (b4 : List AV) (b5 : AV) : AC := zt v9 (.nilchk b5) fun b6 => zt v9 (.faddr 2 b6) fun b7 => zt v9 (.load 1 false b7) fun b8 => zt v9 (.eq 505 true b8 Nf) fun b9 => zi v9 b9 (B false) fun ba => .bind (a483x5 v0 ba) none (fun bb => zr [v9, (nth b4 0)]) (fun bb => [(B false), (U 0)])
def a483x7 (v0 : List AV) (v9 b1 : AV) : AC := zl b1 fun b2 => .op (.eq 504 true b2 Nf) fun b3 => .bind (.ite b3 (a483x3 v0) (zm [(U 0)])) none (fun b4 => zt v9 (.mv (nth v0 0)) fun b5 => (a483x6 v0 v9 b4 b5)) (fun b4 => [(B false), (U 0)])
def a483x8 (v0 : List AV) : AC := zn (nth v0 0) fun v6 => zf 3 v6 fun v7 => zl v7 fun v8 => .call (.fn (.method "Step") [] []) [(.iface 501 v8), (nth v0 1)] fun v9 => zn (nth v0 0) fun b0 => zf 1 b0 fun b1 => (a483x7 v0 v9 b1)
def a483 : List AV → AC := fun v0 => zn (nth v0 0) fun v1 => zf 4 v1 fun v2 => zl v2 fun v3 => .op (.un .not v3) fun v4 => .bind (a483x1 v0 v4) none (fun v5 => (a483x8 v0)) (fun v5 => [(B false), (U 0)])
theorem e483 : denFn prog f483 [7] = a483 := by kernel_rfl
def a484x0 (bc : AV) : AC := zb .eql bc (I 0) fun bd => zr [bd]
def a484x1 (v0 : List AV) (b6 : AV) : AC := zn (nth v0 0) fun b7 => zf 19 b7 fun b8 => zs b8 b6 fun b9 => zn (nth v0 0) fun ba => zf 19 ba fun bb => zl bb fun bc => (a484x0 bc)
def a484x2 (v0 : List AV) (v9 : AV) : AC := zn (nth v0 0) fun b1 => zf 19 b1 fun b2 => zl b2 fun b3 => .op (.paddr 13 1 v9 b3) fun b4 => zl b4 fun b5 => .call b5 [(nth v0 0), (nth v0 1)] fun b6 => (a484x1 v0 b6)
def a484x3 (v0 : List AV) (v1 v6 : AV) : AC := zi v1 (B true) v6 fun v7 => .ite v7 (zr [(B true)]) (zc 485 [] fun v8 => .op (.alloc (List.replicate 13 Nf)) fun v9 => .op (.store 13 v9 v8) fun b0 => (a484x2 v0 v9))
def a484 : List AV → AC := fun v0 => .op (.eq 501 false (nth v0 0) Np) fun v1 => zu v1 (.mv (nth v0 0)) fun v2 => zu v1 (.nilchk v2) fun v3 => zu v1 (.faddr 19 v3) fun v4 => zu v1 (.load 1 false v4) fun v5 => zu v1 (.bin .eql v5 (I 0)) fun v6 => (a484x3 v0 v1 v6)
theorem e484 : denFn prog f484 [4] = a484 := by kernel_rfl
def a485 : List AV → AC := fun v0 => .fin (.op (.alloc (List.replicate 13 Nf)) fun v1 => .op (.build (List.replicate 13 Nf) [(1, 1, (zF 486)), (2, 1, (zF 487)), (3, 1, (zF 488)), (4, 1, (zF 489)), (5, 1, (zF 490)), (6, 1, (zF 491)), (7, 1, (zF 492)), (8, 1, (zF 493)), (9, 1, (zF 494)), (10, 1, (zF 495)), (11, 1, (zF 496)), (12, 1, (zF 497))]) fun v2 => .op (.store 13 v1 v2) fun v3 => zr [v1]) fun v1 => .op (.load 13 true (nth v1 0)) fun v2 => zr [v2]
theorem e485 : denFn prog f485 [] = a485 := by kernel_rfl
def a486x0 (v4 : AV) : AC := zs v4 (I 0) fun v5 => zr [(I 2)]
def a486 : List AV → AC := fun v0 => zc 498 [(nth v0 0), (nth v0 1)] fun v1 => .op (.un .not v1) fun v2 => .ite v2 (zr [(I 1)]) (zn (nth v0 0) fun v3 => zf 20 v3 fun v4 => (a486x0 v4))
theorem e486 : denFn prog f486 [4] = a486 := by kernel_rfl
def a487x0 (v0 b0 : List AV) (b8 bb bd be : AV) : AC := zc 88 [b8, bb, (nth b0 0)] fun bf => .chk (.load 1 false bd) be (zc 499 [be] fun bg => .op (.saddr 1 bg (nth b0 0)) fun bh => zl bh fun bi => zc 76 [(nth v0 1), bf, bi] fun bj => zm [])
def a487x1 (v0 b0 : List AV) (b8 : AV) : AC := zn (nth v0 0) fun b9 => zf 17 b9 fun ba => zl ba fun bb => zn (nth v0 0) fun bc => zf 22 bc fun bd => zl bd fun be => (a487x0 v0 b0 b8 bb bd be)
def a487x2 (v0 b0 : List AV) (b4 : AV) : AC := zb .neq (nth b0 0) b4 fun b5 => .ite b5 (.ret (.exit 1) []) (zn (nth v0 0) fun b6 => zf 0 b6 fun b7 => .op (.load 13 true b7) fun b8 => (a487x1 v0 b0 b8))
def a487x3 (v0 b0 : List AV) : AC := .bind (zn (nth v0 0) fun b2 => zf 20 b2 fun b3 => zl b3 fun b4 => (a487x2 v0 b0 b4)) (some 1) (fun b2 => zb .add (nth b0 0) (I 1) fun b3 => zm [b3]) (fun b2 => [(nth b0 0)])
def a487x4 (v0 : List AV) (v9 : AV) : AC := .loop [(I 0)] (fun b0 => zb .lss (nth b0 0) v9 fun b1 => .ite b1 (a487x3 v0 b0) (.ret (.exit 0) [(nth b0 0)])) (fun b0 => [(nth b0 0)])
def a487x5 (bg : AV) : AC := zs bg (I 0) fun bh => zr [(I 3)]
def a487x6 (v0 : List AV) (ba bc : AV) : AC := zl bc fun bd => zb .lss ba bd fun be => .ite be (zr [(I 2)]) (zn (nth v0 0) fun bf => zf 20 bf fun bg => (a487x5 bg))
def a487x7 (v0 : List AV) (b4 b6 : AV) : AC := zs b6 b4 fun b7 => zn (nth v0 0) fun b8 => zf 20 b8 fun b9 => zl b9 fun ba => zn (nth v0 0) fun bb => zf 18 bb fun bc => (a487x6 v0 ba bc)
def a487x8 (v0 : List AV) : AC := zn (nth v0 0) fun b1 => zf 20 b1 fun b2 => zl b2 fun b3 => zb .add b3 (I 1) fun b4 => zn (nth v0 0) fun b5 => zf 20 b5 fun b6 => (a487x7 v0 b4 b6)
def a487x9 (v0 : List AV) : AC := zn (nth v0 0) fun v7 => zf 18 v7 fun v8 => zl v8 fun v9 => .bind (a487x4 v0 v9) (some 0) (fun b0 => (a487x8 v0)) (fun b0 => [(I 0)])
def a487 : List AV → AC := fun v0 => zn (nth v0 0) fun v1 => zf 15 v1 fun v2 => zl v2 fun v3 => zn (nth v0 0) fun v4 => zf 24 v4 fun v5 => zs v5 v3 fun v6 => (a487x9 v0)
theorem e487 : denFn prog f487 [17, 4] = a487 := by kernel_rfl
def a488x0 (v0 : List AV) (v4 : AV) : AC := zs v4 (B true) fun v5 => zn (nth v0 0) fun v6 => zf 20 v6 fun v7 => zs v7 (I 1) fun v8 => zc 501 [(nth v0 0)] fun v9 => zr [v9]
def a488 : List AV → AC := fun v0 => zc 500 [(nth v0 0), (nth v0 1)] fun v1 => .op (.un .not v1) fun v2 => .ite v2 (zc 365 [(nth v0 0), (I 1)] fun v3 => zr [v3]) (zn (nth v0 0) fun v3 => zf 14 v3 fun v4 => (a488x0 v0 v4))
theorem e488 : denFn prog f488 [4] = a488 := by kernel_rfl
def a494 : List AV → AC := fun v0 => zc 502 [(nth v0 0), (nth v0 1), (I 0)] fun v1 => zc 86 [v1] fun v2 => .ite v2 (zc 365 [(nth v0 0), (I 10)] fun v3 => zr [v3]) (zr [(I 11)])
theorem e494 : denFn prog f494 [4] = a494 := by kernel_rfl
def a496x0 (v0 : List AV) (b9 bc : AV) : AC := zc 458 [b9, bc] fun bd => zn (nth v0 0) fun be => zf 23 be fun bf => zs bf bd fun bg => zr [(I 12)]
def a496x1 (v0 : List AV) (b6 : AV) : AC := zf 0 b6 fun b7 => zf 3 b7 fun b8 => .op (.load 10 true b8) fun b9 => zn (nth v0 0) fun ba => zf 17 ba fun bb => zl bb fun bc => (a496x0 v0 b9 bc)
def a496x2 (v0 : List AV) (v9 b2 : AV) : AC := zc 29 [v9, b2, (I 3)] fun b3 => zc 109 [(nth v0 1), b3, (U 18446744073709551615)] fun b4 => zb .neq b4 (U 0) fun b5 => .ite b5 (zr [(I 0)]) (zn (nth v0 0) fun b6 => (a496x1 v0 b6))
def a496x3 (v0 : List AV) : AC := zn (nth v0 0) fun v7 => zf 0 v7 fun v8 => .op (.load 13 true v8) fun v9 => zn (nth v0 0) fun b0 => zf 17 b0 fun b1 => zl b1 fun b2 => (a496x2 v0 v9 b2)
def a496 : List AV → AC := fun v0 => zn (nth v0 0) fun v1 => zf 15 v1 fun v2 => zl v2 fun v3 => zn (nth v0 0) fun v4 => zf 24 v4 fun v5 => zs v5 v3 fun v6 => (a496x3 v0)
theorem e496 : denFn prog f496 [4] = a496 := by kernel_rfl
def a498x0 (v0 : List AV) (v4 v6 : AV) : AC := zl v6 fun v7 => zc 457 [v7] fun v8 => zn (nth v0 0) fun v9 => zf 24 v9 fun b0 => zs b0 v8 fun b1 => zr [v4]
def a498 : List AV → AC := fun v0 => zn (nth v0 0) fun v1 => zf 22 v1 fun v2 => zl v2 fun v3 => zc 456 [v3, (nth v0 1)] fun v4 => zn (nth v0 0) fun v5 => zf 22 v5 fun v6 => (a498x0 v0 v4 v6)
theorem e498 : denFn prog f498 [] = a498 := by kernel_rfl
def a499x0 (v3 : List AV) (b0 : AV) : AC := .op (.bslice 1 1 [(U 0)] [(0, 1, b0)]) fun b1 => .op (.append 1 8 (nth v3 1) b1) fun b2 => zm [b2]
def a499x1 (v1 : AV) (v3 : List AV) : AC := .op (.saddr 4 v1 (nth v3 0)) fun v5 => .op (.load 4 true v5) fun v6 => .op (.alloc [(I 0), (I 0), (U 0), (U 0)]) fun v7 => .op (.store 4 v7 v6) fun v8 => zf 3 v7 fun v9 => zl v9 fun b0 => (a499x0 v3 b0)
def a499x2 (v3 v5 : List AV) : AC := zb .add (nth v3 0) (I 1) fun v6 => zm [v6, (nth v5 0)]
def a499x3 (v1 v2 : AV) (v3 : List AV) : AC := zb .lss (nth v3 0) v2 fun v4 => .ite v4 (.bind (a499x1 v1 v3) (some 1) (fun v5 => (a499x2 v3 v5)) (fun v5 => [(nth v3 0), (nth v5 0)])) (.ret (.exit 0) [(nth v3 0), (nth v3 1)])
def a499 : List AV → AC := fun v0 => zc 504 [(nth v0 0)] fun v1 => .op (.len false v1) fun v2 => .bind (.loop [(I 0), Ns] (fun v3 => (a499x3 v1 v2 v3)) (fun v3 => [(nth v3 0), (nth v3 1)])) (some 0) (fun v3 => zr [(nth v3 1)]) (fun v3 => [Ns])
theorem e499 : denFn prog f499 [3, 9] = a499 := by kernel_rfl
def a500x0 (v0 : List AV) (bj bk bm bn br bs : AV) : AC := .chk (.load 1 false bj) bk (.chk (.load 1 false bm) bn (.op (.saddr 1 bs bk) fun bt => zl bt fun bu => zc 285 [(nth v0 1), br, bu, bn] fun bv => zr [bv]))
def a500x1 (v0 : List AV) (b5 be bg bh bj bk bm bn bp : AV) : AC := zl bp fun bq => zc 88 [b5, bq, be] fun br => .chk (.load 1 false bg) bh (.chk (.load 1 false bj) bk (.chk (.load 1 false bm) bn (zc 499 [bh] fun bs => (a500x0 v0 bj bk bm bn br bs))))
def a500x2 (v0 : List AV) (b5 ba bb bd be bg bh bj bk bm bn bo : AV) : AC := .chk (.load 1 false ba) bb (.chk (.load 1 false bd) be (.chk (.load 1 false bg) bh (.chk (.load 1 false bj) bk (.chk (.load 1 false bm) bn (.op (.saddr 1 bo bb) fun bp => (a500x1 v0 b5 be bg bh bj bk bm bn bp))))))
def a500x3 (v0 : List AV) (b4 b5 b8 ba bb bd be bg bh bj : AV) : AC := zl bj fun bk => zn (nth v0 0) fun bl => zf 15 bl fun bm => zl bm fun bn => zc 506 [b8] fun bo => .chk (.load 13 true b4) b5 (a500x2 v0 b5 ba bb bd be bg bh bj bk bm bn bo)
def a500x4 (v0 : List AV) (b4 b5 b8 ba bb bd : AV) : AC := zl bd fun be => zn (nth v0 0) fun bf => zf 22 bf fun bg => zl bg fun bh => zn (nth v0 0) fun bi => zf 20 bi fun bj => (a500x3 v0 b4 b5 b8 ba bb bd be bg bh bj)
def a500x5 (v0 : List AV) (b4 b5 b7 : AV) : AC := zl b7 fun b8 => zn (nth v0 0) fun b9 => zf 20 b9 fun ba => zl ba fun bb => zn (nth v0 0) fun bc => zf 20 bc fun bd => (a500x4 v0 b4 b5 b8 ba bb bd)
def a500x6 (v0 : List AV) (v9 b1 : AV) : AC := zs b1 v9 fun b2 => zn (nth v0 0) fun b3 => zf 0 b3 fun b4 => .op (.load 13 true b4) fun b5 => zn (nth v0 0) fun b6 => zf 22 b6 fun b7 => (a500x5 v0 b4 b5 b7)
def a500x7 (v0 : List AV) (v3 v5 v6 : AV) : AC := zc 505 [v3] fun v7 => .chk (.load 1 false v5) v6 (.op (.saddr 1 v7 v6) fun v8 => zl v8 fun v9 => zn (nth v0 0) fun b0 => zf 24 b0 fun b1 => (a500x6 v0 v9 b1))
def a500 : List AV → AC := fun v0 => zn (nth v0 0) fun v1 => zf 22 v1 fun v2 => zl v2 fun v3 => zn (nth v0 0) fun v4 => zf 20 v4 fun v5 => zl v5 fun v6 => (a500x7 v0 v3 v5 v6)
theorem e500 : denFn prog f500 [] = a500 := by kernel_rfl
def a501x0 (v3 v6 : AV) : AC := zb .geq v3 v6 fun v7 => .ite v7 (zr [(I 9)]) (zr [(I 4)])
def a501 : List AV → AC := fun v0 => zn (nth v0 0) fun v1 => zf 20 v1 fun v2 => zl v2 fun v3 => zn (nth v0 0) fun v4 => zf 18 v4 fun v5 => zl v5 fun v6 => (a501x0 v3 v6)
theorem e501 : denFn prog f501 [2] = a501 := by kernel_rfl
def a502x0 (v0 : List AV) (v9 b2 : AV) : AC := zc 88 [v9, b2, (nth v0 2)] fun b3 => zc 132 [(nth v0 1), b3] fun b4 => zr [b4]
def a502x1 (v0 : List AV) : AC := zn (nth v0 0) fun v7 => zf 0 v7 fun v8 => .op (.load 13 true v8) fun v9 => zn (nth v0 0) fun b0 => zf 17 b0 fun b1 => zl b1 fun b2 => (a502x0 v0 v9 b2)
def a502 : List AV → AC := fun v0 => zn (nth v0 0) fun v1 => zf 15 v1 fun v2 => zl v2 fun v3 => zn (nth v0 0) fun v4 => zf 24 v4 fun v5 => zs v5 v3 fun v6 => (a502x1 v0)
theorem e502 : denFn prog f502 [] = a502 := by kernel_rfl
def a504x0 (v4 : AV) : AC := zl v4 fun v5 => zr [v5]
def a504 : List AV → AC := fun v0 => zc 507 [(nth v0 0)] fun v1 => zb .neq v1 (I 0) fun v2 => .ite v2 (zr [Ns]) (zn (nth v0 0) fun v3 => zf 20 v3 fun v4 => (a504x0 v4))
theorem e504 : denFn prog f504 [2] = a504 := by kernel_rfl
def a505x0 (v3 : List AV) (b0 : AV) : AC := .op (.bslice 1 1 [(U 0)] [(0, 1, b0)]) fun b1 => .op (.append 1 8 (nth v3 1) b1) fun b2 => zm [b2]
def a505x1 (v1 : AV) (v3 : List AV) : AC := .op (.saddr 4 v1 (nth v3 0)) fun v5 => .op (.load 4 true v5) fun v6 => .op (.alloc [(I 0), (I 0), (U 0), (U 0)]) fun v7 => .op (.store 4 v7 v6) fun v8 => zf 2 v7 fun v9 => zl v9 fun b0 => (a505x0 v3 b0)
def a505x2 (v3 v5 : List AV) : AC := zb .add (nth v3 0) (I 1) fun v6 => zm [v6, (nth v5 0)]
def a505x3 (v1 v2 : AV) (v3 : List AV) : AC := zb .lss (nth v3 0) v2 fun v4 => .ite v4 (.bind (a505x1 v1 v3) (some 1) (fun v5 => (a505x2 v3 v5)) (fun v5 => [(nth v3 0), (nth v5 0)])) (.ret (.exit 0) [(nth v3 0), (nth v3 1)])
def a505 : List AV → AC := fun v0 => zc 504 [(nth v0 0)] fun v1 => .op (.len false v1) fun v2 => .bind (.loop [(I 0), Ns] (fun v3 => (a505x3 v1 v2 v3)) (fun v3 => [(nth v3 0), (nth v3 1)])) (some 0) (fun v3 => zr [(nth v3 1)]) (fun v3 => [Ns])
theorem e505 : denFn prog f505 [3, 9] = a505 := by kernel_rfl
def a506x0 (v3 : List AV) (b0 : AV) : AC := .op (.bslice 1 1 [(I 0)] [(0, 1, b0)]) fun b1 => .op (.append 1 8 (nth v3 1) b1) fun b2 => zm [b2]
def a506x1 (v1 : AV) (v3 : List AV) : AC := .op (.saddr 4 v1 (nth v3 0)) fun v5 => .op (.load 4 true v5) fun v6 => .op (.alloc [(I 0), (I 0), (U 0), (U 0)]) fun v7 => .op (.store 4 v7 v6) fun v8 => zf 1 v7 fun v9 => zl v9 fun b0 => (a506x0 v3 b0)
def a506x2 (v3 v5 : List AV) : AC := zb .add (nth v3 0) (I 1) fun v6 => zm [v6, (nth v5 0)]
def a506x3 (v1 v2 : AV) (v3 : List AV) : AC := zb .lss (nth v3 0) v2 fun v4 => .ite v4 (.bind (a506x1 v1 v3) (some 1) (fun v5 => (a506x2 v3 v5)) (fun v5 => [(nth v3 0), (nth v5 0)])) (.ret (.exit 0) [(nth v3 0), (nth v3 1)])
def a506 : List AV → AC := fun v0 => zc 504 [(nth v0 0)] fun v1 => .op (.len false v1) fun v2 => .bind (.loop [(I 0), Ns] (fun v3 => (a506x3 v1 v2 v3)) (fun v3 => [(nth v3 0), (nth v3 1)])) (some 0) (fun v3 => zr [(nth v3 1)]) (fun v3 => [Ns])
theorem e506 : denFn prog f506 [3, 9] = a506 := by kernel_rfl
def a507x0 (v0 : List AV) : AC := zn (nth v0 0) fun v8 => zf 14 v8 fun v9 => zl v9 fun b0 => zb .neq b0 (I 9) fun b1 => .ite b1 (zr [(I 14)]) (zm [(I 0)])
def a507x1 (v0 : List AV) (v1 v3 : AV) : AC := zu v1 (.faddr 22 v3) fun v4 => zu v1 (.load 1 false v4) fun v5 => zu v1 (.un .not v5) fun v6 => zi v1 (B true) v6 fun v7 => .ite v7 (zr [(I 1)]) (a507x0 v0)
def a507 : List AV → AC := fun v0 => .bind (.op (.eq 447 false (nth v0 0) Np) fun v1 => zu v1 (.mv (nth v0 0)) fun v2 => zu v1 (.nilchk v2) fun v3 => (a507x1 v0 v1 v3)) (some 0) (fun v1 => zn (nth v0 0) fun v2 => zf 23 v2 fun v3 => zl v3 fun v4 => zr [v4]) (fun v1 => [(nth v1 0)])
theorem e507 : denFn prog f507 [2] = a507 := by kernel_rfl
end
end Tryz
end Go.Proofs
