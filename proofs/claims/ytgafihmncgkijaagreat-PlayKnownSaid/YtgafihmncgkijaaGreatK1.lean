/- The bodies of the functions of this cut, gone through ahead, and that each is its function. No condition. -/
import Derived.Test.YtgafihmncgkijaaGreatK0
set_option linter.unusedVariables false
set_option maxRecDepth 100000
namespace Go.Proofs
open Go.Abs
namespace Tryz
noncomputable section
def a307x0 (v2 v7 : AV) : AC := .op (.store 7 v2 v7) fun v8 => zr [v2]
def a307x1 (v1 v2 v3 : AV) : AC := zc 135 [v3] fun v4 => .op (.un .not v4) fun v5 => .ite v5 (.op (.build [(I 0), (I 0), (I 0), (I 0), Nf, (B false), (I 0)] [(5, 1, (B true)), (6, 1, (I 2))]) fun v6 => .op (.store 7 v2 v6) fun v7 => zr [v2]) (.op (.load 4 true v1) fun v6 => .op (.build [(I 0), (I 0), (I 0), (I 0), Nf, (B false), (I 0)] [(0, 4, v6), (5, 1, (B true))]) fun v7 => (a307x0 v2 v7))
def a307 : List AV → AC := fun v0 => .fin (.op (.box (nth v0 0)) fun v1 => .op (.alloc [(I 0), (I 0), (I 0), (I 0), Nf, (B false), (I 0)]) fun v2 => .op (.load 4 true v1) fun v3 => (a307x1 v1 v2 v3)) fun v1 => .op (.load 7 true (nth v1 0)) fun v2 => zr [v2]
theorem e307 : denFn prog f307 [] = a307 := by kernel_rfl
def a308x0 (v0 : List AV) (bc : AV) : AC := .op (.store 1 bc (.fn (.func 370) [(nth v0 0)] [])) fun bd => zr []
def a308x1 (v0 : List AV) (b5 b6 : AV) : AC := .op (.bin .add b6 (.sc (.int .u32 1))) fun b7 => zc 369 [b7] fun b8 => zc 116 [(nth v0 1), b5, b8] fun b9 => zn (nth v0 0) fun ba => zf 0 ba fun bb => zf 4 bb fun bc => (a308x0 v0 bc)
def a308x2 (v0 : List AV) (v4 v7 b0 b1 b2 : AV) : AC := zf 7 b2 fun b3 => zl b3 fun b4 => zc 138 [v4, v7] fun b5 => .chk (.load 4 true b0) b1 (.chk (.load 1 false b3) b4 (zc 187 [b1, b4] fun b6 => (a308x1 v0 b5 b6)))
def a308x3 (v0 : List AV) (v4 v6 : AV) : AC := zl v6 fun v7 => zn (nth v0 0) fun v8 => zf 0 v8 fun v9 => zf 0 v9 fun b0 => .op (.load 4 true b0) fun b1 => zn (nth v0 0) fun b2 => (a308x2 v0 v4 v7 b0 b1 b2)
def a308 : List AV → AC := fun v0 => zn (nth v0 0) fun v1 => zf 0 v1 fun v2 => zf 0 v2 fun v3 => .op (.load 4 true v3) fun v4 => zn (nth v0 0) fun v5 => zf 7 v5 fun v6 => (a308x3 v0 v4 v6)
theorem e308 : denFn prog f308 [] = a308 := by kernel_rfl
def a309 : List AV → AC := fun v0 => .op (.box (nth v0 0)) fun v1 => .op (.box (nth v0 1)) fun v2 => .op (.alloc [Np]) fun v3 => .op (.alloc [(B false)]) fun v4 => zs v4 (B false) fun v5 => zr [(.fn (.func 371) [] [v4, v1, v3, v2])]
theorem e309 : denFn prog f309 [] = a309 := by kernel_rfl
def a310x0 (v5 b0 b2 : AV) : AC := zf 30 b2 fun b3 => zl b3 fun b4 => zc 311 [v5, b0, b4] fun b5 => zr [b5]
def a310x1 (v0 : List AV) (v5 v6 : AV) : AC := zn v6 fun v7 => zf 0 v7 fun v8 => zf 23 v8 fun v9 => .op (.load 3 true v9) fun b0 => zl (nth v0 0) fun b1 => zn b1 fun b2 => (a310x0 v5 b0 b2)
def a310 : List AV → AC := fun v0 => zl (nth v0 0) fun v1 => zn v1 fun v2 => zf 0 v2 fun v3 => zf 0 v3 fun v4 => .op (.load 13 true v4) fun v5 => zl (nth v0 0) fun v6 => (a310x1 v0 v5 v6)
theorem e310 : denFn prog f310 [] = a310 := by kernel_rfl
def a311x0 (b2 : AV) : AC := zc 374 [b2, (I 2)] fun bf => zm []
def a311x1 (b2 bc : AV) : AC := zc 132 [bc] fun bd => .op (.un .not bd) fun be => .bind (.ite be (a311x0 b2) (zm [])) none (fun bf => zm []) (fun bf => [])
def a311x2 (v2 b2 b8 bb : AV) : AC := .bind (.ite bb (zc 374 [b2, b8] fun bc => zm []) (.op (.load 3 true v2) fun bc => (a311x1 b2 bc))) none (fun bc => zr [b2]) (fun bc => [Np])
def a311x3 (v2 b2 b5 : AV) : AC := zc 373 [b5] fun b6 => .op (.extract 0 b6) fun b7 => .op (.extract 1 b6) fun b8 => .op (.alloc [(U 0), (I 0)]) fun b9 => .op (.store 2 b9 b7) fun ba => zb .neq b8 (I 14) fun bb => (a311x2 v2 b2 b8 bb)
def a311x4 (v2 v7 v8 b0 : AV) : AC := .chk (.load 3 true v2) v8 (.op (.build [(I 0), (I 0), (I 0), (I 0), (I 0), Np, (U 0), Ns, (I 0), (I 0), (U 0), (B false), (B false), (I 0)] [(0, 2, v7), (2, 3, v8), (5, 1, b0), (8, 1, (I (-1))), (9, 1, (I (-1))), (11, 1, (B true))]) fun b1 => .op (.box b1) fun b2 => zn b2 fun b3 => zf 5 b3 fun b4 => zl b4 fun b5 => (a311x3 v2 b2 b5))
def a311x5 (v0 : List AV) (v1 v2 v3 v4 v5 v6 : AV) : AC := .op (.build [(I 0), (I 0)] [(0, 1, v4), (1, 1, v6)]) fun v7 => .op (.load 3 true v2) fun v8 => .op (.load 13 true v1) fun v9 => zc 372 [v9, (nth v0 2)] fun b0 => .chk (.load 1 false v3) v4 (.chk (.load 1 false v5) v6 (a311x4 v2 v7 v8 b0))
def a311 : List AV → AC := fun v0 => .op (.box (nth v0 0)) fun v1 => .op (.box (nth v0 1)) fun v2 => zf 0 v2 fun v3 => zl v3 fun v4 => zf 2 v2 fun v5 => zl v5 fun v6 => (a311x5 v0 v1 v2 v3 v4 v5 v6)
theorem e311 : denFn prog f311 [] = a311 := by kernel_rfl
def a312 : List AV → AC := fun v0 => .op (.box (nth v0 0)) fun v1 => zr [(.fn (.func 375) [] [v1])]
theorem e312 : denFn prog f312 [] = a312 := by kernel_rfl
def a313x0 (v0 : List AV) : AC := zl (nth v0 2) fun be => .call be [(I (-1))] fun bf => zr []
def a313x1 (v0 : List AV) (b1 : AV) : AC := zl (nth v0 2) fun be => .op (.conv .i64 b1) fun bf => zb .sub bf (I 1) fun bg => .call be [bg] fun bh => zr []
def a313x2 (v0 : List AV) (b1 b2 b3 b8 : AV) : AC := zu b2 (.faddr 2 b8) fun b9 => zu b2 (.load 1 false b9) fun ba => zu b2 (.conv .u64 ba) fun bb => zu b2 (.bin .gtr b3 bb) fun bc => zi b2 (B true) bc fun bd => .ite bd (a313x0 v0) (a313x1 v0 b1)
def a313x3 (v0 : List AV) (b1 b2 : AV) : AC := zu b2 (.mv b1) fun b3 => zu b2 (.load 1 false (nth v0 1)) fun b4 => zu b2 (.nilchk b4) fun b5 => zu b2 (.faddr 0 b5) fun b6 => zu b2 (.faddr 15 b6) fun b7 => zu b2 (.faddr 2 b7) fun b8 => (a313x2 v0 b1 b2 b3 b8)
def a313x4 (v0 : List AV) (v5 v6 : AV) : AC := zn v6 fun v7 => zf 30 v7 fun v8 => zl v8 fun v9 => zb .add v5 v9 fun b0 => zc 237 [(nth v0 0), b0] fun b1 => zb .lss b1 (U 1) fun b2 => (a313x3 v0 b1 b2)
def a313 : List AV → AC := fun v0 => zl (nth v0 1) fun v1 => zn v1 fun v2 => zf 0 v2 fun v3 => zf 26 v3 fun v4 => zl v4 fun v5 => zl (nth v0 1) fun v6 => (a313x4 v0 v5 v6)
theorem e313 : denFn prog f313 [] = a313 := by kernel_rfl
def a314x0 (v0 : List AV) (b8 : AV) : AC := zt b8 (.mv (nth v0 0)) fun b9 => zt b8 (.load 1 false (nth v0 1)) fun ba => .gcall b8 true (zF 227) [ba] fun bb => .gcall b8 true b9 [bb] fun bc => zi b8 bc (B false) fun bd => zr []
def a314x1 (v0 : List AV) (v8 b2 : AV) : AC := zi v8 b2 (B false) fun b3 => zt b3 (.mv (nth v0 0)) fun b4 => zt b3 (.mv (.fn (.func 320) [] [(nth v0 1)])) fun b5 => .gcall b3 true (zF 203) [b5] fun b6 => .gcall b3 true b4 [b6] fun b7 => zi b3 b7 (B false) fun b8 => (a314x0 v0 b8)
def a314x2 (v0 : List AV) (v3 v4 v6 : AV) : AC := .gcall v3 true v4 [v6] fun v7 => zi v3 v7 (B false) fun v8 => zt v8 (.mv (nth v0 0)) fun v9 => zt v8 (.mv (.fn (.func 319) [] [(nth v0 1)])) fun b0 => .gcall v8 true (zF 203) [b0] fun b1 => .gcall v8 true v9 [b1] fun b2 => (a314x1 v0 v8 b2)
def a314 : List AV → AC := fun v0 => zl (nth v0 1) fun v1 => zc 315 [(.fn (.func 316) [] [(nth v0 1)]), (.fn (.func 318) [v1] [])] fun v2 => .call (nth v0 0) [v2] fun v3 => zt v3 (.mv (nth v0 0)) fun v4 => zt v3 (.load 1 false (nth v0 1)) fun v5 => .gcall v3 true (zF 218) [v5, (I 3), (I 4)] fun v6 => (a314x2 v0 v3 v4 v6)
theorem e314 : denFn prog f314 [] = a314 := by kernel_rfl
def a315 : List AV → AC := fun v0 => .op (.box (nth v0 0)) fun v1 => .op (.box (nth v0 1)) fun v2 => .op (.alloc [Np]) fun v3 => .op (.alloc [(B false)]) fun v4 => zs v4 (B false) fun v5 => zr [(.fn (.func 376) [] [v4, v1, v3, v2])]
theorem e315 : denFn prog f315 [] = a315 := by kernel_rfl
def a316x0 (v5 v6 : AV) : AC := zn v6 fun v7 => zf 30 v7 fun v8 => zl v8 fun v9 => zc 317 [v5, v9] fun b0 => zr [b0]
def a316 : List AV → AC := fun v0 => zl (nth v0 0) fun v1 => zn v1 fun v2 => zf 0 v2 fun v3 => zf 0 v3 fun v4 => .op (.load 13 true v4) fun v5 => zl (nth v0 0) fun v6 => (a316x0 v5 v6)
theorem e316 : denFn prog f316 [] = a316 := by kernel_rfl
def a317x0 (bf bi : AV) : AC := zs bi bf fun bj => zm []
def a317x1 (v6 b4 b9 bc bd : AV) : AC := zc 382 [bc] fun be => .chk (.load 1 false v6) b4 (.op (.bslice 1 3 [Ni] [(0, 1, bd), (1, 1, (.iface 519 b9)), (2, 1, be)]) fun bf => zn b4 fun bg => zf 0 bg fun bh => zf 16 bh fun bi => (a317x0 bf bi))
def a317x2 (v6 b4 b7 b9 : AV) : AC := zl v6 fun ba => zn ba fun bb => zf 0 bb fun bc => zc 366 [b7] fun bd => .chk (.load 1 false v6) b4 (.chk (.load 1 false v6) ba (a317x1 v6 b4 b9 bc bd))
def a317x3 (v1 v6 : AV) : AC := zl v6 fun b4 => zl v6 fun b5 => zn b5 fun b6 => zf 0 b6 fun b7 => .op (.build [Nf, Nf, Nf, Np, (B false)] [(0, 1, (.fn (.func 377) [] [v1])), (1, 1, (zF 379)), (2, 1, (.fn (.func 380) [] [v6]))]) fun b8 => .op (.box b8) fun b9 => (a317x2 v6 b4 b7 b9)
def a317x4 (v1 v6 b2 : AV) : AC := zb .eql b2 (I 0) fun b3 => .bind (.ite b3 (a317x3 v1 v6) (zm [])) none (fun b4 => zl v6 fun b5 => zr [b5]) (fun b4 => [Np])
def a317x5 (v1 v5 v6 : AV) : AC := zs v6 v5 fun v7 => zl v6 fun v8 => zn v8 fun v9 => zf 0 v9 fun b0 => zf 18 b0 fun b1 => zl b1 fun b2 => (a317x4 v1 v6 b2)
def a317 : List AV → AC := fun v0 => .op (.box (nth v0 0)) fun v1 => .op (.load 13 true v1) fun v2 => zc 365 [v2, (nth v0 1)] fun v3 => .op (.build [(I 0), (I 0), (I 0), (I 0), (I 0), (I 0), (I 0), (I 0), (I 0), (I 0), (I 0), (I 0), (I 0), (I 0), (B false), (I 0), Ns, (U 0), (I 0), (U 0), (I 0), (I 0)] [(0, 19, v3)]) fun v4 => .op (.box v4) fun v5 => .op (.alloc [Np]) fun v6 => (a317x5 v1 v5 v6)
theorem e317 : denFn prog f317 [] = a317 := by kernel_rfl
def a318x0 (v0 : List AV) : AC := zn (nth v0 0) fun bd => zf 36 bd fun be => zs be (B true) fun bf => zc 196 [(nth v0 0), (I 0)] fun bg => zm []
def a318x1 (v0 : List AV) : AC := zc 196 [(nth v0 0), (I 15)] fun be => zm []
def a318x2 (v0 : List AV) : AC := zc 196 [(nth v0 0), (I 5)] fun bs => zm []
def a318x3 (v0 : List AV) (bg bi bp : AV) : AC := zu bg (.bin .geq bi bp) fun bq => zi bg (B true) bq fun br => .bind (.ite br (a318x2 v0) (zm [])) none (fun bs => zm []) (fun bs => [])
def a318x4 (v0 : List AV) (bg bi bj : AV) : AC := zu bg (.nilchk bj) fun bk => zu bg (.faddr 0 bk) fun bl => zu bg (.faddr 15 bl) fun bm => zu bg (.faddr 2 bm) fun bn => zu bg (.faddr 2 bn) fun bo => zu bg (.load 1 false bo) fun bp => (a318x3 v0 bg bi bp)
def a318x5 (v0 : List AV) (v4 : AV) : AC := zf 1 v4 fun be => zl be fun bf => zb .lss bf (I 0) fun bg => zu bg (.faddr 1 v4) fun bh => zu bg (.load 1 false bh) fun bi => zu bg (.mv (nth v0 0)) fun bj => (a318x4 v0 bg bi bj)
def a318x6 (v0 : List AV) (v3 v4 : AV) : AC := zb .neq v3 (I 0) fun bd => .bind (.ite bd (a318x1 v0) (a318x5 v0 v4)) none (fun be => zm []) (fun be => [])
def a318x7 (v0 : List AV) (v3 v4 b6 bb : AV) : AC := zi b6 bb (B false) fun bc => .bind (.ite bc (a318x0 v0) (a318x6 v0 v3 v4)) none (fun bd => zm []) (fun bd => [])
def a318x8 (v0 : List AV) (v3 v4 : AV) : AC := zb .neq v3 (I 0) fun b6 => zt b6 (.mv (nth v0 0)) fun b7 => zt b6 (.nilchk b7) fun b8 => zt b6 (.faddr 29 b8) fun b9 => zt b6 (.load 1 false b9) fun ba => zt b6 (.bin .eql ba (I 4)) fun bb => (a318x7 v0 v3 v4 b6 bb)
def a318x9 (v0 : List AV) (v3 v4 v8 v9 : AV) : AC := .chk (.load 1 false v8) v9 (zn (nth v0 0) fun b3 => zf 34 b3 fun b4 => zs b4 v9 fun b5 => .bind (a318x8 v0 v3 v4) (some 0) (fun b6 => zr []) (fun b6 => []))
def a318x10 (v0 : List AV) (v3 v4 v6 : AV) : AC := zl v6 fun v7 => zf 0 v4 fun v8 => zl v8 fun v9 => zn (nth v0 0) fun b0 => zf 33 b0 fun b1 => zs b1 v7 fun b2 => (a318x9 v0 v3 v4 v8 v9)
def a318 : List AV → AC := fun v0 => zc 383 [(nth v0 1)] fun v1 => .op (.extract 0 v1) fun v2 => .op (.extract 1 v1) fun v3 => .op (.alloc [(U 0), (I 0)]) fun v4 => .op (.store 2 v4 v2) fun v5 => zf 1 v4 fun v6 => (a318x10 v0 v3 v4 v6)
theorem e318 : denFn prog f318 [] = a318 := by kernel_rfl
def a319x0 (v0 : List AV) (b0 b2 : AV) : AC := zf 33 b2 fun b3 => zl b3 fun b4 => zb .add b4 (I 1) fun b5 => .op (.conv .u64 b5) fun b6 => zc 116 [(nth v0 0), b0, b6] fun b7 => zr []
def a319x1 (v0 : List AV) (v5 v6 : AV) : AC := zn v6 fun v7 => zf 30 v7 fun v8 => zl v8 fun v9 => zb .add v5 v9 fun b0 => zl (nth v0 1) fun b1 => zn b1 fun b2 => (a319x0 v0 b0 b2)
def a319 : List AV → AC := fun v0 => zl (nth v0 1) fun v1 => zn v1 fun v2 => zf 0 v2 fun v3 => zf 26 v3 fun v4 => zl v4 fun v5 => zl (nth v0 1) fun v6 => (a319x1 v0 v5 v6)
theorem e319 : denFn prog f319 [] = a319 := by kernel_rfl
def a320x0 (v0 : List AV) (b1 b2 : AV) : AC := zn b2 fun b3 => zf 34 b3 fun b4 => zl b4 fun b5 => zc 116 [(nth v0 0), b1, b5] fun b6 => zr []
def a320x1 (v0 : List AV) (v6 : AV) : AC := zl (nth v0 1) fun v7 => zn v7 fun v8 => zf 30 v8 fun v9 => zl v9 fun b0 => zb .add v6 b0 fun b1 => zl (nth v0 1) fun b2 => (a320x0 v0 b1 b2)
def a320 : List AV → AC := fun v0 => zl (nth v0 1) fun v1 => zn v1 fun v2 => zf 0 v2 fun v3 => zf 23 v3 fun v4 => zf 0 v4 fun v5 => zl v5 fun v6 => (a320x1 v0 v6)
theorem e320 : denFn prog f320 [] = a320 := by kernel_rfl
def a321 : List AV → AC := fun v0 => .op (.box (nth v0 0)) fun v1 => zf 0 v1 fun v2 => zl v2 fun v3 => zn v3 fun v4 => zl v4 fun v5 => zr [v5, (B false)]
theorem e321 : denFn prog f321 [] = a321 := by kernel_rfl
def a322 : List AV → AC := fun v0 => zl (nth v0 1) fun v1 => zl (nth v0 2) fun v2 => zc 116 [(nth v0 0), v1, v2] fun v3 => zr []
theorem e322 : denFn prog f322 [] = a322 := by kernel_rfl
def a324 : List AV → AC := fun v0 => zl (nth v0 0) fun v1 => zn v1 fun v2 => zf 34 v2 fun v3 => zl v3 fun v4 => zb .add v4 (U 1) fun v5 => zr [v5]
theorem e324 : denFn prog f324 [] = a324 := by kernel_rfl
def a326x0 (bg bh bm bq : AV) : AC := zt bg (.bin .add bm bq) fun br => .gcall bg true (zF 238) [br, (U 0)] fun bs => .gcall bg true bh [bs] fun bt => zi bg bt (B false) fun bu => zr []
def a326x1 (v0 : List AV) (bg bh bk : AV) : AC := zt bg (.faddr 26 bk) fun bl => zt bg (.load 1 false bl) fun bm => zt bg (.load 1 false (nth v0 1)) fun bn => zt bg (.nilchk bn) fun bo => zt bg (.faddr 30 bo) fun bp => zt bg (.load 1 false bp) fun bq => (a326x0 bg bh bm bq)
def a326x2 (v0 : List AV) (b9 ba be : AV) : AC := .gcall b9 true ba [be] fun bf => zi b9 bf (B false) fun bg => zt bg (.mv (nth v0 0)) fun bh => zt bg (.load 1 false (nth v0 1)) fun bi => zt bg (.nilchk bi) fun bj => zt bg (.faddr 0 bj) fun bk => (a326x1 v0 bg bh bk)
def a326x3 (v0 : List AV) (b3 b8 : AV) : AC := zi b3 b8 (B false) fun b9 => zt b9 (.mv (nth v0 0)) fun ba => zt b9 (.load 1 false (nth v0 1)) fun bb => zt b9 (.load 1 false (nth v0 3)) fun bc => zt b9 (.load 1 false (nth v0 4)) fun bd => .gcall b9 true (zF 222) [bb, bc, bd] fun be => (a326x2 v0 b9 ba be)
def a326x4 (v0 : List AV) (v8 b2 : AV) : AC := zi v8 b2 (B false) fun b3 => zt b3 (.mv (nth v0 0)) fun b4 => zt b3 (.load 1 false (nth v0 1)) fun b5 => zt b3 (.load 1 false (nth v0 3)) fun b6 => .gcall b3 true (zF 208) [b5, b6] fun b7 => .gcall b3 true b4 [b7] fun b8 => (a326x3 v0 b3 b8)
def a326x5 (v0 : List AV) (v3 v4 v6 : AV) : AC := .gcall v3 true v4 [v6] fun v7 => zi v3 v7 (B false) fun v8 => zt v8 (.mv (nth v0 0)) fun v9 => zt v8 (.load 1 false (nth v0 2)) fun b0 => .gcall v8 true (zF 238) [b0, (U 18446744073709551615)] fun b1 => .gcall v8 true v9 [b1] fun b2 => (a326x4 v0 v8 b2)
def a326 : List AV → AC := fun v0 => zl (nth v0 1) fun v1 => zc 220 [v1, (.fn (.func 327) [] [(nth v0 1)])] fun v2 => .call (nth v0 0) [v2] fun v3 => zt v3 (.mv (nth v0 0)) fun v4 => zt v3 (.load 1 false (nth v0 1)) fun v5 => .gcall v3 true (zF 218) [v5, (I 4), (I 3)] fun v6 => (a326x5 v0 v3 v4 v6)
theorem e326 : denFn prog f326 [] = a326 := by kernel_rfl
def a327x0 (v0 : List AV) (v5 : AV) : AC := .ite v5 (zl (nth v0 2) fun v6 => zc 196 [v6, (I 12)] fun v7 => zm []) (zm [])
def a327x1 (v0 : List AV) (v1 v2 : AV) : AC := .ite v2 (zl (nth v0 2) fun v3 => zc 196 [v3, (I 5)] fun v4 => zm []) (zf 2 v1 fun v3 => zl v3 fun v4 => zb .eql v4 (I 65535) fun v5 => .bind (a327x0 v0 v5) none (fun v6 => zm []) (fun v6 => []))
def a327 : List AV → AC := fun v0 => .op (.box (nth v0 0)) fun v1 => .bind (zb .neq (nth v0 1) (I 0) fun v2 => .bind (a327x1 v0 v1 v2) none (fun v3 => zm []) (fun v3 => [])) (some 0) (fun v2 => zr []) (fun v2 => [])
theorem e327 : denFn prog f327 [] = a327 := by kernel_rfl
def a328x0 (b8 : AV) : AC := .op (.un .not b8) fun b9 => .ite b9 (.ret .ret []) (.ret .normal [])
def a328x1 (v0 : List AV) (v9 : AV) (b1 : List AV) : AC := .op (.saddr 2 v9 (nth b1 0)) fun b3 => .op (.load 2 true b3) fun b4 => .op (.alloc [(I 0), (I 0)]) fun b5 => .op (.store 2 b5 b4) fun b6 => .op (.load 2 true b5) fun b7 => .call (nth v0 0) [b7] fun b8 => (a328x0 b8)
def a328x2 (b1 : List AV) : AC := .op (.bin .add (nth b1 0) (I 1)) fun b4 => .ret .normal [b4]
def a328x3 (v0 : List AV) (v9 b0 : AV) (b1 : List AV) : AC := .op (.bin .lss (nth b1 0) b0) fun b2 => .ite b2 (.bind (a328x1 v0 v9 b1) (some 3) (fun b3 => (a328x2 b1)) (fun b3 => [(nth b1 0)])) (.ret (.exit 2) [(nth b1 0)])
def a328x4 (v0 : List AV) (v6 : AV) (v7 : List AV) : AC := .op (.aidx 16 1 false v6 (nth v7 0)) fun v9 => .op (.len false v9) fun b0 => .bind (.loop [(I 0)] (fun b1 => (a328x3 v0 v9 b0 b1)) (fun b1 => [(nth b1 0)])) (some 2) (fun b1 => .ret .normal [(nth b1 0)]) (fun b1 => [(nth b1 0)])
def a328x5 (v7 v9 : List AV) : AC := .op (.bin .add (nth v7 0) (I 1)) fun b0 => .ret .normal [b0, (nth v9 0)]
def a328x6 (v0 : List AV) (v6 : AV) (v7 : List AV) : AC := .op (.bin .lss (nth v7 0) (I 16)) fun v8 => .ite v8 (.bind (a328x4 v0 v6 v7) (some 1) (fun v9 => (a328x5 v7 v9)) (fun v9 => [(nth v7 0), (nth v9 0)])) (.ret (.exit 0) [(nth v7 0), (nth v7 1)])
def a328x7 (v0 : List AV) (v6 : AV) : AC := .bind (.loop [(I 0), .no] (fun v7 => (a328x6 v0 v6 v7)) (fun v7 => [(nth v7 0), (nth v7 1)])) (some 0) (fun v7 => .ret .ret []) (fun v7 => [])
def a328 : List AV → AC := fun v0 => .op (.load 1 false (nth v0 1)) fun v1 => .op (.load 1 false (nth v0 2)) fun v2 => .op (.nilchk v1) fun v3 => .op (.faddr 2 v3) fun v4 => .op (.paddr 11 16 v4 v2) fun v5 => .op (.load 16 true v5) fun v6 => (a328x7 v0 v6)
theorem e328 : denFn prog f328 [14, 19] = a328 := by kernel_rfl
def a330 : List AV → AC := fun v0 => .op (.len false (nth v0 0)) fun v1 => zb .sub v1 (nth v0 1) fun v2 => zc 384 [(nth v0 0), v2] fun v3 => zr []
theorem e330 : denFn prog f330 [] = a330 := by kernel_rfl
def a331x0 (v1 v3 : AV) : AC := .op (.load 1 false v1) fun v5 => .op (.load 2 true v3) fun v6 => .op (.bslice 2 1 [(I 0), (I 0)] [(0, 2, v6)]) fun v7 => .op (.append 2 16 v5 v7) fun v8 => .op (.store 1 v1 v8) fun v9 => .ret .normal []
def a331x1 (v1 : AV) (v2 : List AV) : AC := .op (.alloc [(I 0), (I 0)]) fun v3 => .op (.store 2 v3 (nth v2 1)) fun v4 => .start (nth v2 0) (.bind (a331x0 v1 v3) (some 1) (fun v5 => .ret .normal []) (fun v5 => []))
def a331 : List AV → AC := fun v0 => .op (.box (nth v0 0)) fun v1 => .bind (.rng 1 (nth v0 1) (fun v2 => (a331x1 v1 v2)) (.ret .normal []) []) (some 0) (fun v2 => .op (.load 1 false v1) fun v3 => .ret .ret [v3]) (fun v2 => [Ns])
theorem e331 : denFn prog f331 [] = a331 := by kernel_rfl
def a333x0 (v5 v6 : AV) : AC := zt v5 (.faddr 2 v6) fun v7 => zt v5 (.load 1 false v7) fun v8 => zt v5 (.bin .leq v8 (I 4096)) fun v9 => zi v5 v9 (B false) fun b0 => zr [b0]
def a333 : List AV → AC := fun v0 => .op (.box (nth v0 0)) fun v1 => zf 0 v1 fun v2 => zf 2 v2 fun v3 => zl v3 fun v4 => zb .geq v4 (I 1) fun v5 => zt v5 (.faddr 0 v1) fun v6 => (a333x0 v5 v6)
theorem e333 : denFn prog f333 [] = a333 := by kernel_rfl
def a334x0 (v4 v6 : AV) : AC := zt v4 (.bin .leq v6 (I 64)) fun v7 => zi v4 v7 (B false) fun v8 => zr [v8]
def a334 : List AV → AC := fun v0 => .op (.box (nth v0 0)) fun v1 => zf 2 v1 fun v2 => zl v2 fun v3 => zb .geq v3 (I 1) fun v4 => zt v4 (.faddr 2 v1) fun v5 => zt v4 (.load 1 false v5) fun v6 => (a334x0 v4 v6)
theorem e334 : denFn prog f334 [] = a334 := by kernel_rfl
def a335 : List AV → AC := fun v0 => .op (.box (nth v0 0)) fun v1 => zr [(.fn (.func 386) [] [v1])]
theorem e335 : denFn prog f335 [] = a335 := by kernel_rfl
def a336x0 (v1 b4 b6 : AV) : AC := zb .add b6 (I 1) fun b7 => zf 1 v1 fun b8 => zl b8 fun b9 => .op (.bslice 1 2 [(I 0)] [(0, 1, b7), (1, 1, b9)]) fun ba => zc 279 [b4, ba] fun bb => zr [bb, (I 0)]
def a336x1 (v1 : AV) : AC := zc 387 [] fun b1 => .op (.alloc [(I 0), (I 0), (I 0), (I 0)]) fun b2 => .op (.store 4 b2 b1) fun b3 => .op (.aslice 2 2 b2 none none none) fun b4 => zf 0 v1 fun b5 => zl b5 fun b6 => (a336x0 v1 b4 b6)
def a336x2 (v1 v4 v6 : AV) : AC := .op (.build [(I 0), (I 0), (I 0)] [(0, 1, v6), (1, 1, (I 0)), (2, 1, (I 281474976710655))]) fun v7 => .op (.bslice 3 2 [(I 0), (I 0), (I 0)] [(0, 3, v4), (3, 3, v7)]) fun v8 => zc 277 [v8] fun v9 => .op (.un .not v9) fun b0 => .ite b0 (zr [(U 0), (I 3)]) (a336x1 v1)
def a336 : List AV → AC := fun v0 => .op (.box (nth v0 0)) fun v1 => zf 0 v1 fun v2 => zl v2 fun v3 => .op (.build [(I 0), (I 0), (I 0)] [(0, 1, v3), (1, 1, (I (-1))), (2, 1, (I 65534))]) fun v4 => zf 1 v1 fun v5 => zl v5 fun v6 => (a336x2 v1 v4 v6)
theorem e336 : denFn prog f336 [2, 3] = a336 := by kernel_rfl
def a337x0 (v0 v2 : List AV) : AC := .op (.saddr 2 (nth v0 0) (nth v2 0)) fun v4 => .op (.load 2 true v4) fun v5 => .call (nth v0 1) [v5] fun v6 => .ite v6 (.ret .ret [(nth v2 0)]) (.ret .normal [(nth v2 1)])
def a337x1 (v2 v4 : List AV) : AC := .op (.bin .add (nth v2 0) (I 1)) fun v5 => .ret .normal [v5, (nth v4 0)]
def a337x2 (v0 : List AV) (v1 : AV) (v2 : List AV) : AC := .op (.bin .lss (nth v2 0) v1) fun v3 => .ite v3 (.bind (a337x0 v0 v2) (some 1) (fun v4 => (a337x1 v2 v4)) (fun v4 => [(nth v2 0), (nth v4 0)])) (.ret (.exit 0) [(nth v2 0), (nth v2 1)])
def a337 : List AV → AC := fun v0 => .op (.len false (nth v0 0)) fun v1 => .bind (.loop [(I 0), (I 0)] (fun v2 => (a337x2 v0 v1 v2)) (fun v2 => [(nth v2 0), (nth v2 1)])) (some 0) (fun v2 => .ret .ret [(I (-1))]) (fun v2 => [(nth v2 1)])
theorem e337 : denFn prog f337 [4, 8] = a337 := by kernel_rfl
def a339x0 (v0 : List AV) (b5 : AV) : AC := .ite b5 (zn (nth v0 0) fun b6 => zf 5 b6 fun b7 => .op (.store 1 b7 (.fn (.func 267) [(nth v0 0)] [])) fun b8 => zm []) (zm [])
def a339x1 (v0 : List AV) (b1 b2 : AV) : AC := zf 5 b2 fun b3 => zs b3 Nf fun b4 => .op (.un .not b1) fun b5 => .bind (a339x0 v0 b5) none (fun b6 => zr []) (fun b6 => [])
def a339x2 (v0 : List AV) (v3 v6 : AV) : AC := zn (nth v0 0) fun v7 => zf 3 v7 fun v8 => zl v8 fun v9 => zb .add v9 (U 1) fun b0 => zc 388 [(nth v0 1), v3, v6, b0] fun b1 => zn (nth v0 0) fun b2 => (a339x1 v0 b1 b2)
def a339 : List AV → AC := fun v0 => zn (nth v0 0) fun v1 => zf 1 v1 fun v2 => zl v2 fun v3 => zn (nth v0 0) fun v4 => zf 4 v4 fun v5 => zl v5 fun v6 => (a339x2 v0 v3 v6)
theorem e339 : denFn prog f339 [] = a339 := by kernel_rfl
def a340x0 (v0 : List AV) : AC := zb .sub (nth v0 0) (U 1) fun v4 => zb .sub (nth v0 1) v4 fun v5 => zb .lss v5 (nth v0 2) fun v6 => zr [v6]
def a340 : List AV → AC := fun v0 => zb .eql (nth v0 0) (U 0) fun v1 => .ite v1 (zr [(B false)]) (zb .sub (nth v0 0) (U 1) fun v2 => zb .lss (nth v0 1) v2 fun v3 => .ite v3 (zr [(B true)]) (a340x0 v0))
theorem e340 : denFn prog f340 [6] = a340 := by kernel_rfl
def a341x0 (v0 : List AV) (b5 : AV) : AC := .ite b5 (zn (nth v0 0) fun b6 => zf 0 b6 fun b7 => zc 391 [b7, (I 15)] fun b8 => zm []) (zm [])
def a341x1 (v0 : List AV) (b2 : AV) : AC := zf 4 b2 fun b3 => zl b3 fun b4 => zb .lss b4 (I 0) fun b5 => .bind (a341x0 v0 b5) none (fun b6 => zr []) (fun b6 => [])
def a341x2 (v0 : List AV) (v6 : AV) : AC := zn (nth v0 0) fun v7 => zf 0 v7 fun v8 => zf 4 v8 fun v9 => zs v9 v6 fun b0 => zn (nth v0 0) fun b1 => zf 0 b1 fun b2 => (a341x1 v0 b2)
def a341 : List AV → AC := fun v0 => zn (nth v0 0) fun v1 => zf 9 v1 fun v2 => .op (.store 1 v2 (zF 389)) fun v3 => zn (nth v0 0) fun v4 => zf 0 v4 fun v5 => zc 390 [v5, (nth v0 1)] fun v6 => (a341x2 v0 v6)
theorem e341 : denFn prog f341 [] = a341 := by kernel_rfl
def a342x0 (v0 : List AV) : AC := zn (nth v0 0) fun b1 => zf 0 b1 fun b2 => zf 7 b2 fun b3 => zl b3 fun b4 => zr [b4]
def a342x1 (v0 : List AV) (v6 : AV) : AC := .ite v6 (zr [(B true)]) (zn (nth v0 0) fun v7 => zf 9 v7 fun v8 => zl v8 fun v9 => .call v9 [(nth v0 0), (nth v0 1)] fun b0 => (a342x0 v0))
def a342 : List AV → AC := fun v0 => .op (.eq 386 false (nth v0 0) Np) fun v1 => zu v1 (.mv (nth v0 0)) fun v2 => zu v1 (.nilchk v2) fun v3 => zu v1 (.faddr 0 v3) fun v4 => .gcall v1 false (zF 392) [v4] fun v5 => zi v1 (B true) v5 fun v6 => (a342x1 v0 v6)
theorem e342 : denFn prog f342 [4] = a342 := by kernel_rfl
def a343x0 (v4 : AV) : AC := .op (.extract 0 v4) fun v5 => .op (.extract 1 v4) fun v6 => zr [v5, v6]
def a343 : List AV → AC := fun v0 => .op (.eq 386 false (nth v0 0) Np) fun v1 => .ite v1 (zr [(I 0), (I 1)]) (zn (nth v0 0) fun v2 => zf 0 v2 fun v3 => zc 393 [v3] fun v4 => (a343x0 v4))
theorem e343 : denFn prog f343 [2, 3] = a343 := by kernel_rfl
def a344x0 (v0 : List AV) (v6 : AV) : AC := .op (.store 1 v6 (.fn (.func 395) [(nth v0 0)] [])) fun v7 => zr []
def a344 : List AV → AC := fun v0 => zn (nth v0 0) fun v1 => zf 0 v1 fun v2 => zc 394 [v2, (nth v0 1)] fun v3 => zn (nth v0 0) fun v4 => zf 0 v4 fun v5 => zf 8 v5 fun v6 => (a344x0 v0 v6)
theorem e344 : denFn prog f344 [] = a344 := by kernel_rfl
def a345 : List AV → AC := fun v0 => zn (nth v0 0) fun v1 => zf 8 v1 fun v2 => zs v2 Nf fun v3 => zn (nth v0 0) fun v4 => zf 10 v4 fun v5 => zs v5 (nth v0 1) fun v6 => zr []
theorem e345 : denFn prog f345 [] = a345 := by kernel_rfl
def a347x0 (v0 : List AV) (b6 : AV) : AC := .ite b6 (zn (nth v0 0) fun b7 => zf 10 b7 fun b8 => zs b8 (I 3) fun b9 => zm []) (zm [])
def a347x1 (v0 : List AV) : AC := zn (nth v0 0) fun b8 => zf 10 b8 fun b9 => zl b9 fun ba => zb .neq ba (I 0) fun bb => zr [bb]
def a347x2 (v0 : List AV) (v4 v8 b2 : AV) : AC := zu v4 (.faddr 2 b2) fun b3 => zu v4 (.load 1 false b3) fun b4 => zu v4 (.bin .geq v8 b4) fun b5 => zi v4 (B true) b5 fun b6 => .bind (a347x0 v0 b6) none (fun b7 => (a347x1 v0)) (fun b7 => [(B false)])
def a347x3 (v0 : List AV) (v4 v6 : AV) : AC := zu v4 (.faddr 5 v6) fun v7 => zu v4 (.load 1 false v7) fun v8 => zu v4 (.mv (nth v0 0)) fun v9 => zu v4 (.nilchk v9) fun b0 => zu v4 (.faddr 0 b0) fun b1 => zu v4 (.faddr 2 b1) fun b2 => (a347x2 v0 v4 v8 b2)
def a347 : List AV → AC := fun v0 => zn (nth v0 0) fun v1 => zf 5 v1 fun v2 => zl v2 fun v3 => zb .lss v3 (I 0) fun v4 => zu v4 (.mv (nth v0 0)) fun v5 => zu v4 (.nilchk v5) fun v6 => (a347x3 v0 v4 v6)
theorem e347 : denFn prog f347 [] = a347 := by kernel_rfl
def a348x0 (v5 b1 : AV) : AC := .ite b1 (zn v5 fun b2 => zf 0 b2 fun b3 => zc 391 [b3, (I 3)] fun b4 => zm []) (zm [])
def a348x1 (v0 : List AV) (v1 v5 v6 : AV) : AC := zu v6 (.mv (nth v0 1)) fun v7 => zu v6 (.faddr 2 v1) fun v8 => zu v6 (.load 1 false v8) fun v9 => zu v6 (.bin .geq v7 v9) fun b0 => zi v6 (B true) b0 fun b1 => .bind (a348x0 v5 b1) none (fun b2 => zr [v5]) (fun b2 => [Np])
def a348 : List AV → AC := fun v0 => .op (.box (nth v0 0)) fun v1 => .op (.load 3 true v1) fun v2 => .op (.build [(I 0), (I 0), (I 0), (U 0), (I 0), (I 0), (B false), (B false), (I 0)] [(0, 3, v2), (4, 1, (nth v0 1)), (6, 1, (B true))]) fun v3 => .op (.build [(I 0), (I 0), (I 0), (U 0), (I 0), (I 0), (B false), (B false), (I 0), Nf] [(0, 9, v3), (9, 1, (zF 396))]) fun v4 => .op (.box v4) fun v5 => zb .lss (nth v0 1) (I 0) fun v6 => (a348x1 v0 v1 v5 v6)
theorem e348 : denFn prog f348 [] = a348 := by kernel_rfl
def a350 : List AV → AC := fun v0 => .op (.box (nth v0 1)) fun v1 => .op (.conv .u64 (nth v0 2)) fun v2 => zf 0 v1 fun v3 => zl v3 fun v4 => zb .shl v2 v4 fun v5 => zb .or (nth v0 0) v5 fun v6 => zr [v6]
theorem e350 : denFn prog f350 [] = a350 := by kernel_rfl
def a351x0 (v0 : List AV) : AC := zl (nth v0 2) fun v3 => .call v3 [] fun v4 => zs (nth v0 3) v4 fun v5 => zs (nth v0 1) (B true) fun v6 => zm []
def a351x1 (v8 v9 : AV) : AC := .ite v9 (.call (.fn (.method "By") [] []) [v8] fun b0 => zm [b0]) (zm [(U 0)])
def a351x2 (v0 : List AV) (b3 : AV) : AC := .ite b3 (zl (nth v0 4) fun b4 => zl (nth v0 3) fun b5 => .call b4 [b5] fun b6 => zm []) (zm [])
def a351x3 (v0 : List AV) (v5 : AV) (b0 : List AV) : AC := zt v5 (.load 1 false (nth v0 4)) fun b1 => zt v5 (.eq 479 true b1 Nf) fun b2 => zi v5 b2 (B false) fun b3 => .bind (a351x2 v0 b3) none (fun b4 => zr [v5, (nth b0 0)]) (fun b4 => [(B false), (U 0)])
def a351x4 (v0 : List AV) (v4 : AV) : AC := .call (.fn (.method "Step") [] []) [(.iface 405 v4), (nth v0 0)] fun v5 => zl (nth v0 3) fun v6 => .op (.tassert 380 true true (some Ni) (.iface 405 v6)) fun v7 => .op (.extract 0 v7) fun v8 => .op (.extract 1 v7) fun v9 => .bind (a351x1 v8 v9) none (fun b0 => (a351x3 v0 v5 b0)) (fun b0 => [(B false), (U 0)])
def a351 : List AV → AC := fun v0 => zl (nth v0 1) fun v1 => .op (.un .not v1) fun v2 => .bind (.ite v2 (a351x0 v0) (zm [])) none (fun v3 => zl (nth v0 3) fun v4 => (a351x4 v0 v4)) (fun v3 => [(B false), (U 0)])
theorem e351 : denFn prog f351 [9] = a351 := by kernel_rfl
def a352x0 (v0 : List AV) (b0 b2 : AV) : AC := zl b2 fun b3 => zc 116 [(nth v0 1), b0, b3] fun b4 => zn (nth v0 0) fun b5 => zf 0 b5 fun b6 => zc 345 [b6, (I 0)] fun b7 => zr []
def a352x1 (v0 : List AV) (v5 v6 : AV) : AC := zf 0 v6 fun v7 => zf 5 v7 fun v8 => zl v8 fun v9 => zb .add v5 v9 fun b0 => zn (nth v0 0) fun b1 => zf 11 b1 fun b2 => (a352x0 v0 b0 b2)
def a352 : List AV → AC := fun v0 => zn (nth v0 0) fun v1 => zf 0 v1 fun v2 => zf 0 v2 fun v3 => zf 1 v3 fun v4 => zl v4 fun v5 => zn (nth v0 0) fun v6 => (a352x1 v0 v5 v6)
theorem e352 : denFn prog f352 [] = a352 := by kernel_rfl
def a353 : List AV → AC := fun v0 => zn (nth v0 0) fun v1 => zf 4 v1 fun v2 => zs v2 Nf fun v3 => zn (nth v0 0) fun v4 => zf 6 v4 fun v5 => zs v5 (nth v0 1) fun v6 => zr []
theorem e353 : denFn prog f353 [] = a353 := by kernel_rfl
def a354x0 (v0 : List AV) (b2 : AV) : AC := .op (.store 1 b2 (.fn (.func 398) [(nth v0 0)] [])) fun b3 => zr []
def a354x1 (v0 : List AV) (v6 : AV) : AC := zn (nth v0 0) fun v7 => zf 8 v7 fun v8 => zs v8 v6 fun v9 => zn (nth v0 0) fun b0 => zf 0 b0 fun b1 => zf 4 b1 fun b2 => (a354x0 v0 b2)
def a354 : List AV → AC := fun v0 => zn (nth v0 0) fun v1 => zf 0 v1 fun v2 => zf 0 v2 fun v3 => zf 1 v3 fun v4 => zl v4 fun v5 => zc 237 [(nth v0 1), v5] fun v6 => (a354x1 v0 v6)
theorem e354 : denFn prog f354 [] = a354 := by kernel_rfl
def a355x0 (v0 : List AV) : AC := zl (nth v0 2) fun v3 => .call v3 [] fun v4 => zs (nth v0 3) v4 fun v5 => zs (nth v0 1) (B true) fun v6 => zm []
def a355x1 (v8 v9 : AV) : AC := .ite v9 (.call (.fn (.method "By") [] []) [v8] fun b0 => zm [b0]) (zm [(U 0)])
def a355x2 (v0 : List AV) (b3 : AV) : AC := .ite b3 (zl (nth v0 4) fun b4 => zl (nth v0 3) fun b5 => .call b4 [b5] fun b6 => zm []) (zm [])
def a355x3 (v0 : List AV) (v5 : AV) (b0 : List AV) : AC := zt v5 (.load 1 false (nth v0 4)) fun b1 => zt v5 (.eq 484 true b1 Nf) fun b2 => zi v5 b2 (B false) fun b3 => .bind (a355x2 v0 b3) none (fun b4 => zr [v5, (nth b0 0)]) (fun b4 => [(B false), (U 0)])
def a355x4 (v0 : List AV) (v4 : AV) : AC := .call (.fn (.method "Step") [] []) [(.iface 414 v4), (nth v0 0)] fun v5 => zl (nth v0 3) fun v6 => .op (.tassert 380 true true (some Ni) (.iface 414 v6)) fun v7 => .op (.extract 0 v7) fun v8 => .op (.extract 1 v7) fun v9 => .bind (a355x1 v8 v9) none (fun b0 => (a355x3 v0 v5 b0)) (fun b0 => [(B false), (U 0)])
def a355 : List AV → AC := fun v0 => zl (nth v0 1) fun v1 => .op (.un .not v1) fun v2 => .bind (.ite v2 (a355x0 v0) (zm [])) none (fun v3 => zl (nth v0 3) fun v4 => (a355x4 v0 v4)) (fun v3 => [(B false), (U 0)])
theorem e355 : denFn prog f355 [9] = a355 := by kernel_rfl
def a356x0 (v0 : List AV) (v6 : AV) : AC := .ite v6 (zr [(B false)]) (zc 400 [] fun v7 => .op (.aidx 6 6 true v7 (nth v0 0)) fun v8 => .op (.aidx 6 1 false v8 (nth v0 1)) fun v9 => zr [v9])
def a356 : List AV → AC := fun v0 => zc 399 [(nth v0 0)] fun v1 => .op (.bin .eql v1 (.sc (.string ⟨#[110, 111, 110, 101]⟩))) fun v2 => zu v2 (.mv (nth v0 1)) fun v3 => .gcall v2 false (zF 399) [v3] fun v4 => zu v2 (.bin .eql v4 (.sc (.string ⟨#[110, 111, 110, 101]⟩))) fun v5 => zi v2 (B true) v5 fun v6 => (a356x0 v0 v6)
theorem e356 : denFn prog f356 [4] = a356 := by kernel_rfl
def a357x0 (v0 : List AV) (bi : AV) : AC := .ite bi (zn (nth v0 0) fun bj => zf 0 bj fun bk => zc 345 [bk, (I 11)] fun bl => zm []) (zm [])
def a357x1 (v0 : List AV) (b1 b4 bc bd be : AV) : AC := .gchk b4 true (.load 1 false bc) bd (zt b4 (.part 1 1 false be) fun bf => zt b4 (.bin .neq bf bd) fun bg => zu b1 (.pick b4 bg (B false)) fun bh => zi b1 (B true) bh fun bi => .bind (a357x0 v0 bi) none (fun bj => zr []) (fun bj => []))
def a357x2 (v0 : List AV) (b1 b4 b8 : AV) : AC := zt b4 (.load 1 false b8) fun b9 => zt b4 (.mv (nth v0 0)) fun ba => zt b4 (.nilchk ba) fun bb => zt b4 (.faddr 13 bb) fun bc => zt b4 (.load 1 false bc) fun bd => .gcall b4 true (zF 85) [b9] fun be => (a357x1 v0 b1 b4 bc bd be)
def a357x3 (v0 : List AV) (b1 b2 : AV) : AC := zu b1 (.bin .eql b2 (I 4)) fun b3 => zu b1 (.mv b3) fun b4 => zt b4 (.mv (nth v0 0)) fun b5 => zt b4 (.nilchk b5) fun b6 => zt b4 (.faddr 0 b6) fun b7 => zt b4 (.faddr 6 b7) fun b8 => (a357x2 v0 b1 b4 b8)
def a357x4 (v0 : List AV) (v6 : AV) : AC := zc 394 [v6, (nth v0 1)] fun v7 => zn (nth v0 0) fun v8 => zf 11 v8 fun v9 => zl v9 fun b0 => zb .neq v7 b0 fun b1 => zu b1 (.mv v7) fun b2 => (a357x3 v0 b1 b2)
def a357 : List AV → AC := fun v0 => zn (nth v0 0) fun v1 => zf 0 v1 fun v2 => zf 8 v2 fun v3 => .op (.store 1 v3 (.fn (.func 401) [(nth v0 0)] [])) fun v4 => zn (nth v0 0) fun v5 => zf 0 v5 fun v6 => (a357x4 v0 v6)
theorem e357 : denFn prog f357 [] = a357 := by kernel_rfl
def a358x0 (v0 : List AV) : AC := zl (nth v0 2) fun v3 => .call v3 [] fun v4 => zs (nth v0 3) v4 fun v5 => zs (nth v0 1) (B true) fun v6 => zm []
def a358x1 (v8 v9 : AV) : AC := .ite v9 (.call (.fn (.method "By") [] []) [v8] fun b0 => zm [b0]) (zm [(U 0)])
def a358x2 (v0 : List AV) (b3 : AV) : AC := .ite b3 (zl (nth v0 4) fun b4 => zl (nth v0 3) fun b5 => .call b4 [b5] fun b6 => zm []) (zm [])
def a358x3 (v0 : List AV) (v5 : AV) (b0 : List AV) : AC := zt v5 (.load 1 false (nth v0 4)) fun b1 => zt v5 (.eq 421 true b1 Nf) fun b2 => zi v5 b2 (B false) fun b3 => .bind (a358x2 v0 b3) none (fun b4 => zr [v5, (nth b0 0)]) (fun b4 => [(B false), (U 0)])
def a358x4 (v0 : List AV) (v4 : AV) : AC := .call (.fn (.method "Step") [] []) [(.iface 418 v4), (nth v0 0)] fun v5 => zl (nth v0 3) fun v6 => .op (.tassert 380 true true (some Ni) (.iface 418 v6)) fun v7 => .op (.extract 0 v7) fun v8 => .op (.extract 1 v7) fun v9 => .bind (a358x1 v8 v9) none (fun b0 => (a358x3 v0 v5 b0)) (fun b0 => [(B false), (U 0)])
def a358 : List AV → AC := fun v0 => zl (nth v0 1) fun v1 => .op (.un .not v1) fun v2 => .bind (.ite v2 (a358x0 v0) (zm [])) none (fun v3 => zl (nth v0 3) fun v4 => (a358x4 v0 v4)) (fun v3 => [(B false), (U 0)])
theorem e358 : denFn prog f358 [9] = a358 := by kernel_rfl
def a359x0 (v0 : List AV) (b2 : AV) : AC := .op (.store 1 b2 (.fn (.func 402) [(nth v0 0)] [])) fun b3 => zr []
def a359x1 (v0 : List AV) (v6 : AV) : AC := zn (nth v0 0) fun v7 => zf 7 v7 fun v8 => zs v8 v6 fun v9 => zn (nth v0 0) fun b0 => zf 0 b0 fun b1 => zf 4 b1 fun b2 => (a359x0 v0 b2)
def a359 : List AV → AC := fun v0 => zn (nth v0 0) fun v1 => zf 0 v1 fun v2 => zf 0 v2 fun v3 => zf 0 v3 fun v4 => zl v4 fun v5 => zc 237 [(nth v0 1), v5] fun v6 => (a359x1 v0 v6)
theorem e359 : denFn prog f359 [] = a359 := by kernel_rfl
def a360x0 (v7 : AV) : AC := .op (.eq 335 true v7 Nf) fun v8 => .ite v8 (zr [(I 14)]) (zm [(I 0)])
def a360x1 (v0 : List AV) (v3 : AV) : AC := .op (.un .not v3) fun v4 => .ite v4 (zr [(I 1)]) (zn (nth v0 0) fun v5 => zf 4 v5 fun v6 => zl v6 fun v7 => (a360x0 v7))
def a360 : List AV → AC := fun v0 => .bind (zn (nth v0 0) fun v1 => zf 5 v1 fun v2 => zl v2 fun v3 => (a360x1 v0 v3)) (some 0) (fun v1 => zn (nth v0 0) fun v2 => zf 6 v2 fun v3 => zl v3 fun v4 => zr [v4]) (fun v1 => [(nth v1 0)])
theorem e360 : denFn prog f360 [2] = a360 := by kernel_rfl
def a361x0 (v0 : List AV) : AC := zl (nth v0 2) fun v3 => .call v3 [] fun v4 => zs (nth v0 3) v4 fun v5 => zs (nth v0 1) (B true) fun v6 => zm []
def a361x1 (v8 v9 : AV) : AC := .ite v9 (.call (.fn (.method "By") [] []) [v8] fun b0 => zm [b0]) (zm [(U 0)])
def a361x2 (v0 : List AV) (b3 : AV) : AC := .ite b3 (zl (nth v0 4) fun b4 => zl (nth v0 3) fun b5 => .call b4 [b5] fun b6 => zm []) (zm [])
def a361x3 (v0 : List AV) (v5 : AV) (b0 : List AV) : AC := zt v5 (.load 1 false (nth v0 4)) fun b1 => zt v5 (.eq 429 true b1 Nf) fun b2 => zi v5 b2 (B false) fun b3 => .bind (a361x2 v0 b3) none (fun b4 => zr [v5, (nth b0 0)]) (fun b4 => [(B false), (U 0)])
def a361x4 (v0 : List AV) (v4 : AV) : AC := .call (.fn (.method "Step") [] []) [(.iface 423 v4), (nth v0 0)] fun v5 => zl (nth v0 3) fun v6 => .op (.tassert 380 true true (some Ni) (.iface 423 v6)) fun v7 => .op (.extract 0 v7) fun v8 => .op (.extract 1 v7) fun v9 => .bind (a361x1 v8 v9) none (fun b0 => (a361x3 v0 v5 b0)) (fun b0 => [(B false), (U 0)])
def a361 : List AV → AC := fun v0 => zl (nth v0 1) fun v1 => .op (.un .not v1) fun v2 => .bind (.ite v2 (a361x0 v0) (zm [])) none (fun v3 => zl (nth v0 3) fun v4 => (a361x4 v0 v4)) (fun v3 => [(B false), (U 0)])
theorem e361 : denFn prog f361 [9] = a361 := by kernel_rfl
def a362x0 (v0 : List AV) (b1 b2 : AV) : AC := zf 0 b2 fun b3 => zf 6 b3 fun b4 => zs b4 b1 fun b5 => zn (nth v0 0) fun b6 => zf 0 b6 fun b7 => zc 345 [b7, (I 0)] fun b8 => zr []
def a362x1 (v0 : List AV) (v5 v6 : AV) : AC := zf 0 v6 fun v7 => zf 5 v7 fun v8 => zl v8 fun v9 => zb .add v5 v9 fun b0 => zc 237 [(nth v0 1), b0] fun b1 => zn (nth v0 0) fun b2 => (a362x0 v0 b1 b2)
def a362 : List AV → AC := fun v0 => zn (nth v0 0) fun v1 => zf 0 v1 fun v2 => zf 0 v2 fun v3 => zf 1 v3 fun v4 => zl v4 fun v5 => zn (nth v0 0) fun v6 => (a362x1 v0 v5 v6)
theorem e362 : denFn prog f362 [] = a362 := by kernel_rfl
def a363x0 (v4 v6 : AV) : AC := zb .shl (U 1) v6 fun v7 => zb .sub v7 (U 1) fun v8 => zb .and v4 v8 fun v9 => .op (.conv .i64 v9) fun b0 => zr [b0]
def a363 : List AV → AC := fun v0 => .op (.box (nth v0 1)) fun v1 => zf 0 v1 fun v2 => zl v2 fun v3 => zb .shr (nth v0 0) v3 fun v4 => zf 1 v1 fun v5 => zl v5 fun v6 => (a363x0 v4 v6)
theorem e363 : denFn prog f363 [] = a363 := by kernel_rfl
def a364x0 (v0 : List AV) : AC := zl (nth v0 2) fun v3 => .call v3 [] fun v4 => zs (nth v0 3) v4 fun v5 => zs (nth v0 1) (B true) fun v6 => zm []
def a364x1 (v8 v9 : AV) : AC := .ite v9 (.call (.fn (.method "By") [] []) [v8] fun b0 => zm [b0]) (zm [(U 0)])
def a364x2 (v0 : List AV) (b3 : AV) : AC := .ite b3 (zl (nth v0 4) fun b4 => zl (nth v0 3) fun b5 => .call b4 [b5] fun b6 => zm []) (zm [])
def a364x3 (v0 : List AV) (v5 : AV) (b0 : List AV) : AC := zt v5 (.load 1 false (nth v0 4)) fun b1 => zt v5 (.eq 434 true b1 Nf) fun b2 => zi v5 b2 (B false) fun b3 => .bind (a364x2 v0 b3) none (fun b4 => zr [v5, (nth b0 0)]) (fun b4 => [(B false), (U 0)])
def a364x4 (v0 : List AV) (v4 : AV) : AC := .call (.fn (.method "Step") [] []) [(.iface 431 v4), (nth v0 0)] fun v5 => zl (nth v0 3) fun v6 => .op (.tassert 380 true true (some Ni) (.iface 431 v6)) fun v7 => .op (.extract 0 v7) fun v8 => .op (.extract 1 v7) fun v9 => .bind (a364x1 v8 v9) none (fun b0 => (a364x3 v0 v5 b0)) (fun b0 => [(B false), (U 0)])
def a364 : List AV → AC := fun v0 => zl (nth v0 1) fun v1 => .op (.un .not v1) fun v2 => .bind (.ite v2 (a364x0 v0) (zm [])) none (fun v3 => zl (nth v0 3) fun v4 => (a364x4 v0 v4)) (fun v3 => [(B false), (U 0)])
theorem e364 : denFn prog f364 [9] = a364 := by kernel_rfl
def a365x0 (v5 b7 : AV) : AC := .ite b7 (zf 18 v5 fun b8 => zs b8 (I 3) fun b9 => zm []) (zm [])
def a365x1 (v5 b0 b1 b3 : AV) : AC := zu b0 (.faddr 2 b3) fun b4 => zu b0 (.load 1 false b4) fun b5 => zu b0 (.bin .geq b1 b5) fun b6 => zi b0 (B true) b6 fun b7 => .bind (a365x0 v5 b7) none (fun b8 => zm []) (fun b8 => [])
def a365x2 (v0 : List AV) (v1 v5 v9 : AV) : AC := .ite v9 (zf 18 v5 fun b0 => zs b0 (I 2) fun b1 => zm []) (zb .lss (nth v0 1) (I 0) fun b0 => zu b0 (.mv (nth v0 1)) fun b1 => zu b0 (.faddr 3 v1) fun b2 => zu b0 (.faddr 6 b2) fun b3 => (a365x1 v5 b0 b1 b3))
def a365x3 (v0 : List AV) (v1 v5 : AV) : AC := .op (.load 13 true v1) fun v7 => zc 83 [v7, (I 0), (I 0)] fun v8 => zb .lss v8 (I 0) fun v9 => .bind (a365x2 v0 v1 v5 v9) none (fun b0 => zm []) (fun b0 => [])
def a365x4 (v2 v5 : AV) : AC := .op (.load 19 true v5) fun v8 => .op (.store 19 v2 v8) fun v9 => zr [v2]
def a365x5 (v0 : List AV) (v1 v2 v3 : AV) : AC := .op (.build [(I 0), (I 0), (I 0), (I 0), (I 0), (I 0), (I 0), (I 0), (I 0), (I 0), (I 0), (I 0), (I 0), (I 0), (B false), (I 0), Ns, (U 0), (I 0)] [(0, 13, v3), (13, 1, (nth v0 1)), (14, 1, (B true))]) fun v4 => .op (.alloc [(I 0), (I 0), (I 0), (I 0), (I 0), (I 0), (I 0), (I 0), (I 0), (I 0), (I 0), (I 0), (I 0), (I 0), (B false), (I 0), Ns, (U 0), (I 0)]) fun v5 => .op (.store 19 v5 v4) fun v6 => .bind (a365x3 v0 v1 v5) (some 0) (fun v7 => (a365x4 v2 v5)) (fun v7 => [v2])
def a365 : List AV → AC := fun v0 => .fin (.op (.box (nth v0 0)) fun v1 => .op (.alloc [(I 0), (I 0), (I 0), (I 0), (I 0), (I 0), (I 0), (I 0), (I 0), (I 0), (I 0), (I 0), (I 0), (I 0), (B false), (I 0), Ns, (U 0), (I 0)]) fun v2 => .op (.load 13 true v1) fun v3 => (a365x5 v0 v1 v2 v3)) fun v1 => .op (.load 19 true (nth v1 0)) fun v2 => zr [v2]
theorem e365 : denFn prog f365 [] = a365 := by kernel_rfl
def a366 : List AV → AC := fun v0 => .op (.box (nth v0 0)) fun v1 => .op (.build [Nf, Nf, Nf, Np, (B false)] [(0, 1, (.fn (.func 403) [] [v1])), (2, 1, (.fn (.func 405) [] [v1]))]) fun v2 => .op (.box v2) fun v3 => zr [(.iface 541 v3)]
theorem e366 : denFn prog f366 [] = a366 := by kernel_rfl
def a367 : List AV → AC := fun v0 => .op (.box (nth v0 0)) fun v1 => zl v1 fun v2 => .op (.build [Nf, Nf, Nf, Np, (B false)] [(0, 1, (.fn (.func 407) [] [v1])), (2, 1, (.fn (.func 409) [v2] []))]) fun v3 => .op (.box v3) fun v4 => zr [(.iface 549 v4)]
theorem e367 : denFn prog f367 [] = a367 := by kernel_rfl
def a368x0 (v7 : AV) : AC := .op (.len false v7) fun v8 => zb .gtr v8 (I 0) fun v9 => .ite v9 (zr [(I 14)]) (zm [(I 0)])
def a368x1 (v0 : List AV) (v3 : AV) : AC := .op (.un .not v3) fun v4 => .ite v4 (zr [(I 1)]) (zn (nth v0 0) fun v5 => zf 16 v5 fun v6 => zl v6 fun v7 => (a368x0 v7))
def a368 : List AV → AC := fun v0 => .bind (zn (nth v0 0) fun v1 => zf 14 v1 fun v2 => zl v2 fun v3 => (a368x1 v0 v3)) (some 0) (fun v1 => zn (nth v0 0) fun v2 => zf 18 v2 fun v3 => zl v3 fun v4 => zr [v4]) (fun v1 => [(nth v1 0)])
theorem e368 : denFn prog f368 [2] = a368 := by kernel_rfl
def a369 : List AV → AC := fun v0 => .op (.conv .u64 (nth v0 0)) fun v1 => zb .shl v1 (U 32) fun v2 => zr [v2]
theorem e369 : denFn prog f369 [] = a369 := by kernel_rfl
def a370x0 (b2 : AV) : AC := zc 353 [b2, (I 0)] fun b3 => zr []
def a370x1 (v0 : List AV) (v5 v6 : AV) : AC := zf 7 v6 fun v7 => zl v7 fun v8 => zb .add v8 (U 1) fun v9 => zc 116 [(nth v0 1), v5, v9] fun b0 => zn (nth v0 0) fun b1 => zf 0 b1 fun b2 => (a370x0 b2)
def a370 : List AV → AC := fun v0 => zn (nth v0 0) fun v1 => zf 0 v1 fun v2 => zf 0 v2 fun v3 => zf 0 v3 fun v4 => zl v4 fun v5 => zn (nth v0 0) fun v6 => (a370x1 v0 v5 v6)
theorem e370 : denFn prog f370 [] = a370 := by kernel_rfl
def a371x0 (v0 : List AV) : AC := zl (nth v0 2) fun v3 => .call v3 [] fun v4 => zs (nth v0 3) v4 fun v5 => zs (nth v0 1) (B true) fun v6 => zm []
def a371x1 (v8 v9 : AV) : AC := .ite v9 (.call (.fn (.method "By") [] []) [v8] fun b0 => zm [b0]) (zm [(U 0)])
def a371x2 (v0 : List AV) (b3 : AV) : AC := .ite b3 (zl (nth v0 4) fun b4 => zl (nth v0 3) fun b5 => .call b4 [b5] fun b6 => zm []) (zm [])
def a371x3 (v0 : List AV) (v5 : AV) (b0 : List AV) : AC := zt v5 (.load 1 false (nth v0 4)) fun b1 => zt v5 (.eq 504 true b1 Nf) fun b2 => zi v5 b2 (B false) fun b3 => .bind (a371x2 v0 b3) none (fun b4 => zr [v5, (nth b0 0)]) (fun b4 => [(B false), (U 0)])
def a371x4 (v0 : List AV) (v4 : AV) : AC := .call (.fn (.method "Step") [] []) [(.iface 442 v4), (nth v0 0)] fun v5 => zl (nth v0 3) fun v6 => .op (.tassert 380 true true (some Ni) (.iface 442 v6)) fun v7 => .op (.extract 0 v7) fun v8 => .op (.extract 1 v7) fun v9 => .bind (a371x1 v8 v9) none (fun b0 => (a371x3 v0 v5 b0)) (fun b0 => [(B false), (U 0)])
def a371 : List AV → AC := fun v0 => zl (nth v0 1) fun v1 => .op (.un .not v1) fun v2 => .bind (.ite v2 (a371x0 v0) (zm [])) none (fun v3 => zl (nth v0 3) fun v4 => (a371x4 v0 v4)) (fun v3 => [(B false), (U 0)])
theorem e371 : denFn prog f371 [9] = a371 := by kernel_rfl
def a372x0 (bf bi : AV) : AC := zs bi bf fun bj => zm []
def a372x1 (v6 b4 b9 bc bd : AV) : AC := zc 382 [bc] fun be => .chk (.load 1 false v6) b4 (.op (.bslice 1 3 [Ni] [(0, 1, bd), (1, 1, (.iface 558 b9)), (2, 1, be)]) fun bf => zn b4 fun bg => zf 0 bg fun bh => zf 16 bh fun bi => (a372x0 bf bi))
def a372x2 (v6 b4 b7 b9 : AV) : AC := zl v6 fun ba => zn ba fun bb => zf 0 bb fun bc => zc 366 [b7] fun bd => .chk (.load 1 false v6) b4 (.chk (.load 1 false v6) ba (a372x1 v6 b4 b9 bc bd))
def a372x3 (v1 v6 : AV) : AC := zl v6 fun b4 => zl v6 fun b5 => zn b5 fun b6 => zf 0 b6 fun b7 => .op (.build [Nf, Nf, Nf, Np, (B false)] [(0, 1, (.fn (.func 410) [] [v1])), (1, 1, (zF 412)), (2, 1, (.fn (.func 413) [] [v6]))]) fun b8 => .op (.box b8) fun b9 => (a372x2 v6 b4 b7 b9)
def a372x4 (v1 v6 b2 : AV) : AC := zb .eql b2 (I 0) fun b3 => .bind (.ite b3 (a372x3 v1 v6) (zm [])) none (fun b4 => zl v6 fun b5 => zr [b5]) (fun b4 => [Np])
def a372x5 (v1 v5 v6 : AV) : AC := zs v6 v5 fun v7 => zl v6 fun v8 => zn v8 fun v9 => zf 0 v9 fun b0 => zf 18 b0 fun b1 => zl b1 fun b2 => (a372x4 v1 v6 b2)
def a372 : List AV → AC := fun v0 => .op (.box (nth v0 0)) fun v1 => .op (.load 13 true v1) fun v2 => zc 365 [v2, (nth v0 1)] fun v3 => .op (.build [(I 0), (I 0), (I 0), (I 0), (I 0), (I 0), (I 0), (I 0), (I 0), (I 0), (I 0), (I 0), (I 0), (I 0), (B false), (I 0), Ns, (U 0), (I 0), (U 0), (I 0), (I 0)] [(0, 19, v3)]) fun v4 => .op (.box v4) fun v5 => .op (.alloc [Np]) fun v6 => (a372x5 v1 v5 v6)
theorem e372 : denFn prog f372 [] = a372 := by kernel_rfl
def a373x0 (v1 : AV) : AC := .op (.build [(U 0), (I 0)] []) fun v3 => .op (.store 2 v1 v3) fun v4 => zr [v1, (I 1)]
def a373x1 (v1 v8 : AV) : AC := .op (.extract 0 v8) fun v9 => .op (.extract 1 v8) fun b0 => .op (.store 2 v1 v9) fun b1 => zr [v1, b0]
def a373x2 (v0 : List AV) (v1 : AV) : AC := zn (nth v0 0) fun v3 => zf 19 v3 fun v4 => .op (.load 3 true v4) fun v5 => zn (nth v0 0) fun v6 => zf 0 v6 fun v7 => zc 415 [v5, v7] fun v8 => (a373x1 v1 v8)
def a373 : List AV → AC := fun v0 => .fin (.op (.alloc [(U 0), (I 0)]) fun v1 => .op (.eq 507 false (nth v0 0) Np) fun v2 => .ite v2 (a373x0 v1) (a373x2 v0 v1)) fun v1 => .op (.load 2 true (nth v1 0)) fun v2 => zr [v2, (nth v1 1)]
theorem e373 : denFn prog f373 [3] = a373 := by kernel_rfl
def a374 : List AV → AC := fun v0 => zn (nth v0 0) fun v1 => zf 12 v1 fun v2 => zs v2 (B true) fun v3 => zn (nth v0 0) fun v4 => zf 13 v4 fun v5 => zs v5 (nth v0 1) fun v6 => zr []
theorem e374 : denFn prog f374 [] = a374 := by kernel_rfl
def a375x0 (v0 : List AV) (bz : AV) : AC := zl bz fun c0 => .call (nth v0 0) [c0] fun c1 => .op (.un .not c1) fun c2 => .ite c2 (zr []) (zm [])
def a375x1 (v0 : List AV) (bp bs : AV) : AC := zl bs fun bt => zn bt fun bu => zf 1 bu fun bv => zl bv fun bw => zb .sub bw (I 1) fun bx => .op (.saddr 1 bp bx) fun bz => (a375x0 v0 bz)
def a375x2 (v0 : List AV) (bm : AV) : AC := zn bm fun bn => zf 0 bn fun bo => zl bo fun bp => zl (nth v0 1) fun bq => zn bq fun br => zf 0 br fun bs => (a375x1 v0 bp bs)
def a375x3 (v0 : List AV) (bf bg : AV) : AC := zf 1 bg fun bh => zs bh bf fun bi => zl (nth v0 1) fun bj => zn bj fun bk => zf 0 bk fun bl => zl bl fun bm => (a375x2 v0 bm)
def a375x4 (v0 : List AV) (ba : AV) : AC := zl ba fun bb => zn bb fun bc => zf 1 bc fun bd => zl bd fun be => zb .add be (I 1) fun bf => zn bb fun bg => (a375x3 v0 bf bg)
def a375x5 (v0 : List AV) : AC := .bind (zl (nth v0 1) fun b8 => zn b8 fun b9 => zf 0 b9 fun ba => (a375x4 v0 ba)) (some 1) (fun b8 => zm []) (fun b8 => [])
def a375x6 (v0 : List AV) (v8 b3 : AV) : AC := zf 0 b3 fun b4 => zl b4 fun b5 => .op (.len false b5) fun b6 => zb .lss v8 b6 fun b7 => .ite b7 (a375x5 v0) (.ret (.exit 0) [])
def a375x7 (v0 : List AV) (v7 : AV) : AC := zl v7 fun v8 => zl (nth v0 1) fun v9 => zn v9 fun b0 => zf 0 b0 fun b1 => zl b1 fun b2 => zn b2 fun b3 => (a375x6 v0 v8 b3)
def a375x8 (v0 : List AV) : AC := zl (nth v0 1) fun v2 => zn v2 fun v3 => zf 0 v3 fun v4 => zl v4 fun v5 => zn v5 fun v6 => zf 1 v6 fun v7 => (a375x7 v0 v7)
def a375 : List AV → AC := fun v0 => .bind (.loop [] (fun v1 => (a375x8 v0)) (fun v1 => [])) (some 0) (fun v1 => zr []) (fun v1 => [])
theorem e375 : denFn prog f375 [] = a375 := by kernel_rfl
def a376x0 (v0 : List AV) : AC := zl (nth v0 2) fun v3 => .call v3 [] fun v4 => zs (nth v0 3) v4 fun v5 => zs (nth v0 1) (B true) fun v6 => zm []
def a376x1 (v8 v9 : AV) : AC := .ite v9 (.call (.fn (.method "By") [] []) [v8] fun b0 => zm [b0]) (zm [(U 0)])
def a376x2 (v0 : List AV) (b3 : AV) : AC := .ite b3 (zl (nth v0 4) fun b4 => zl (nth v0 3) fun b5 => .call b4 [b5] fun b6 => zm []) (zm [])
def a376x3 (v0 : List AV) (v5 : AV) (b0 : List AV) : AC := zt v5 (.load 1 false (nth v0 4)) fun b1 => zt v5 (.eq 450 true b1 Nf) fun b2 => zi v5 b2 (B false) fun b3 => .bind (a376x2 v0 b3) none (fun b4 => zr [v5, (nth b0 0)]) (fun b4 => [(B false), (U 0)])
def a376x4 (v0 : List AV) (v4 : AV) : AC := .call (.fn (.method "Step") [] []) [(.iface 447 v4), (nth v0 0)] fun v5 => zl (nth v0 3) fun v6 => .op (.tassert 380 true true (some Ni) (.iface 447 v6)) fun v7 => .op (.extract 0 v7) fun v8 => .op (.extract 1 v7) fun v9 => .bind (a376x1 v8 v9) none (fun b0 => (a376x3 v0 v5 b0)) (fun b0 => [(B false), (U 0)])
def a376 : List AV → AC := fun v0 => zl (nth v0 1) fun v1 => .op (.un .not v1) fun v2 => .bind (.ite v2 (a376x0 v0) (zm [])) none (fun v3 => zl (nth v0 3) fun v4 => (a376x4 v0 v4)) (fun v3 => [(B false), (U 0)])
theorem e376 : denFn prog f376 [9] = a376 := by kernel_rfl
def a377 : List AV → AC := fun v0 => .op (.load 13 true (nth v0 0)) fun v1 => zc 378 [v1] fun v2 => zr [v2]
theorem e377 : denFn prog f377 [] = a377 := by kernel_rfl
def a378 : List AV → AC := fun v0 => .op (.box (nth v0 0)) fun v1 => .op (.load 13 true v1) fun v2 => zc 416 [v2] fun v3 => .op (.build [(I 0), (I 0), (I 0), (I 0), (I 0), (I 0), (I 0), (I 0), (I 0), (I 0), (I 0), (I 0), (I 0), (I 0), (B false), Np, Np, (I 0), (U 0), (I 0), (U 0), (U 0), (I 0), (U 0), (B false), (I 0)] [(0, 26, v3)]) fun v4 => .op (.box v4) fun v5 => zr [v5]
theorem e378 : denFn prog f378 [] = a378 := by kernel_rfl
def a379x0 (v4 : AV) : AC := zl v4 fun v5 => zr [v5]
def a379 : List AV → AC := fun v0 => .op (.eq 520 false (nth v0 0) Np) fun v1 => .ite v1 (zr [(U 0)]) (zn (nth v0 0) fun v2 => zf 0 v2 fun v3 => zf 23 v3 fun v4 => (a379x0 v4))
theorem e379 : denFn prog f379 [2] = a379 := by kernel_rfl
def a380x0 (v2 v5 : AV) : AC := zn v2 fun b0 => zf 19 b0 fun b1 => zf 2 b1 fun b2 => zs b2 v5 fun b3 => zr []
def a380x1 (v0 : List AV) (v1 v2 v3 v4 : AV) : AC := .op (.extract 1 v3) fun v5 => zn v1 fun v6 => zf 19 v6 fun v7 => zf 0 v7 fun v8 => .op (.store 2 v8 v4) fun v9 => .chk (.load 1 false (nth v0 1)) v2 (a380x0 v2 v5)
def a380 : List AV → AC := fun v0 => zl (nth v0 1) fun v1 => zl (nth v0 1) fun v2 => zc 381 [(nth v0 0)] fun v3 => .chk (.load 1 false (nth v0 1)) v1 (.chk (.load 1 false (nth v0 1)) v2 (.op (.extract 0 v3) fun v4 => (a380x1 v0 v1 v2 v3 v4)))
theorem e380 : denFn prog f380 [] = a380 := by kernel_rfl
def a381x0 (v1 : AV) : AC := .op (.build [(U 0), (I 0)] []) fun v3 => .op (.store 2 v1 v3) fun v4 => zr [v1, (I 1)]
def a381x1 (v0 : List AV) (v1 : AV) : AC := zn (nth v0 0) fun v3 => zf 0 v3 fun v4 => zc 417 [v4] fun v5 => .op (.extract 0 v5) fun v6 => .op (.extract 1 v5) fun v7 => .op (.store 2 v1 v6) fun v8 => zr [v1, v7]
def a381 : List AV → AC := fun v0 => .fin (.op (.alloc [(U 0), (I 0)]) fun v1 => .op (.eq 520 false (nth v0 0) Np) fun v2 => .ite v2 (a381x0 v1) (a381x1 v0 v1)) fun v1 => .op (.load 2 true (nth v1 0)) fun v2 => zr [v2, (nth v1 1)]
theorem e381 : denFn prog f381 [3] = a381 := by kernel_rfl
def a382 : List AV → AC := fun v0 => .op (.box (nth v0 0)) fun v1 => .op (.build [Nf, Nf, Nf, Np, (B false)] [(0, 1, (.fn (.func 418) [] [v1]))]) fun v2 => .op (.box v2) fun v3 => zr [(.iface 577 v3)]
theorem e382 : denFn prog f382 [] = a382 := by kernel_rfl
def a383x0 (v1 : AV) : AC := .op (.build [(U 0), (I 0)] []) fun v3 => .op (.store 2 v1 v3) fun v4 => zr [v1, (I 1)]
def a383x1 (v1 v8 : AV) : AC := .op (.extract 0 v8) fun v9 => .op (.extract 1 v8) fun b0 => .op (.store 2 v1 v9) fun b1 => zr [v1, b0]
def a383x2 (v0 : List AV) (v1 : AV) : AC := zn (nth v0 0) fun v3 => zf 19 v3 fun v4 => .op (.load 3 true v4) fun v5 => zn (nth v0 0) fun v6 => zf 0 v6 fun v7 => zc 415 [v5, v7] fun v8 => (a383x1 v1 v8)
def a383 : List AV → AC := fun v0 => .fin (.op (.alloc [(U 0), (I 0)]) fun v1 => .op (.eq 447 false (nth v0 0) Np) fun v2 => .ite v2 (a383x0 v1) (a383x2 v0 v1)) fun v1 => .op (.load 2 true (nth v1 0)) fun v2 => zr [v2, (nth v1 1)]
theorem e383 : denFn prog f383 [3] = a383 := by kernel_rfl
def a384 : List AV → AC := fun v0 => .op (.sslice 2 (nth v0 0) none (some (nth v0 1)) none) fun v1 => zc 420 [v1] fun v2 => .op (.sslice 2 (nth v0 0) (some (nth v0 1)) none none) fun v3 => zc 420 [v3] fun v4 => zc 420 [(nth v0 0)] fun v5 => zr []
theorem e384 : denFn prog f384 [] = a384 := by kernel_rfl
def a386x0 (v0 v3 : List AV) : AC := zf 1 (nth v0 1) fun v5 => zl v5 fun v6 => zb .add v6 (nth v3 0) fun v7 => .call (nth v0 0) [(nth v3 0), v7] fun v8 => .op (.un .not v8) fun v9 => .ite v9 (zr []) (zm [])
def a386x1 (v3 : List AV) : AC := zb .add (nth v3 0) (I 1) fun v6 => zm [v6]
def a386x2 (v0 : List AV) (v2 : AV) (v3 : List AV) : AC := zb .lss (nth v3 0) v2 fun v4 => .ite v4 (.bind (a386x0 v0 v3) (some 1) (fun v5 => (a386x1 v3)) (fun v5 => [(nth v3 0)])) (.ret (.exit 0) [(nth v3 0)])
def a386 : List AV → AC := fun v0 => zf 2 (nth v0 1) fun v1 => zl v1 fun v2 => .bind (.loop [(I 0)] (fun v3 => (a386x2 v0 v2 v3)) (fun v3 => [(nth v3 0)])) (some 0) (fun v3 => zr []) (fun v3 => [])
theorem e386 : denFn prog f386 [6] = a386 := by kernel_rfl
def a387x0 (v1 v2 v3 : AV) : AC := .op (.build [(I 0), (I 0), (I 0), (I 0)] [(0, 2, v2), (2, 2, v3)]) fun v4 => .op (.store 4 v1 v4) fun v5 => zr [v1]
def a387 : List AV → AC := fun v0 => .fin (.op (.alloc [(I 0), (I 0), (I 0), (I 0)]) fun v1 => .op (.build [(I 0), (I 0)] [(0, 1, (I 0)), (1, 1, (I 16))]) fun v2 => .op (.build [(I 0), (I 0)] [(0, 1, (I 16)), (1, 1, (I 48))]) fun v3 => (a387x0 v1 v2 v3)) fun v1 => .op (.load 4 true (nth v1 0)) fun v2 => zr [v2]
theorem e387 : denFn prog f387 [] = a387 := by kernel_rfl
def a388x0 (v0 : List AV) (v3 v6 : AV) : AC := .op (.load 3 true v3) fun v7 => zc 170 [(nth v0 0), (I 3), (nth v0 1), v6, (.fn (.func 421) [v7] [])] fun v8 => .op (.part 4 1 false v8) fun v9 => zr [v9]
def a388 : List AV → AC := fun v0 => zc 169 [(nth v0 0), (nth v0 1)] fun v1 => .op (.build [Np, (U 0), (U 0)] [(0, 1, v1), (1, 1, (nth v0 2)), (2, 1, (nth v0 3))]) fun v2 => .op (.alloc [Np, (U 0), (U 0)]) fun v3 => .op (.store 3 v3 v2) fun v4 => zf 0 v3 fun v5 => zl v5 fun v6 => (a388x0 v0 v3 v6)
theorem e388 : denFn prog f388 [] = a388 := by kernel_rfl
def a389x0 (v0 : List AV) (b6 b7 : AV) : AC := zf 0 b7 fun b8 => zf 5 b8 fun b9 => zs b9 b6 fun ba => zn (nth v0 0) fun bb => zf 9 bb fun bc => .op (.store 1 bc (zF 423)) fun bd => zr []
def a389x1 (v0 : List AV) (v3 v4 v9 b2 : AV) : AC := zl b2 fun b3 => zb .add v9 b3 fun b4 => zc 237 [(nth v0 1), b4] fun b5 => .chk (.load 3 true v3) v4 (zc 422 [v4, b5] fun b6 => zn (nth v0 0) fun b7 => (a389x0 v0 b6 b7))
def a389x2 (v0 : List AV) (v3 v4 v6 : AV) : AC := zf 0 v6 fun v7 => zf 1 v7 fun v8 => zl v8 fun v9 => zn (nth v0 0) fun b0 => zf 0 b0 fun b1 => zf 4 b1 fun b2 => (a389x1 v0 v3 v4 v9 b2)
def a389 : List AV → AC := fun v0 => zn (nth v0 0) fun v1 => zf 0 v1 fun v2 => zf 0 v2 fun v3 => .op (.load 3 true v3) fun v4 => zn (nth v0 0) fun v5 => zf 0 v5 fun v6 => (a389x2 v0 v3 v4 v6)
theorem e389 : denFn prog f389 [] = a389 := by kernel_rfl
def a390x0 (b1 b2 : AV) : AC := zf 3 b2 fun b3 => zl b3 fun b4 => zc 422 [b1, b4] fun b5 => zr [b5]
def a390x1 (v0 : List AV) (v5 v6 : AV) : AC := zf 3 v6 fun v7 => zs v7 v5 fun v8 => zn (nth v0 0) fun v9 => zf 0 v9 fun b0 => .op (.load 3 true b0) fun b1 => zn (nth v0 0) fun b2 => (a390x0 b1 b2)
def a390 : List AV → AC := fun v0 => zn (nth v0 0) fun v1 => zf 0 v1 fun v2 => zf 0 v2 fun v3 => zl v3 fun v4 => zc 237 [(nth v0 1), v4] fun v5 => zn (nth v0 0) fun v6 => (a390x1 v0 v5 v6)
theorem e390 : denFn prog f390 [] = a390 := by kernel_rfl
def a391 : List AV → AC := fun v0 => zn (nth v0 0) fun v1 => zf 7 v1 fun v2 => zs v2 (B true) fun v3 => zn (nth v0 0) fun v4 => zf 8 v4 fun v5 => zs v5 (nth v0 1) fun v6 => zr []
theorem e391 : denFn prog f391 [] = a391 := by kernel_rfl
def a392x0 (v0 : List AV) (v1 v6 : AV) : AC := zi v1 (B true) v6 fun v7 => zu v7 (.mv (nth v0 0)) fun v8 => zu v7 (.nilchk v8) fun v9 => zu v7 (.faddr 7 v9) fun b0 => zu v7 (.load 1 false b0) fun b1 => zi v7 (B true) b1 fun b2 => zr [b2]
def a392 : List AV → AC := fun v0 => .op (.eq 587 false (nth v0 0) Np) fun v1 => zu v1 (.mv (nth v0 0)) fun v2 => zu v1 (.nilchk v2) fun v3 => zu v1 (.faddr 6 v3) fun v4 => zu v1 (.load 1 false v4) fun v5 => zu v1 (.un .not v5) fun v6 => (a392x0 v0 v1 v6)
theorem e392 : denFn prog f392 [] = a392 := by kernel_rfl
def a393x0 (v4 : AV) : AC := zl v4 fun v5 => zr [v5, (I 0)]
def a393 : List AV → AC := fun v0 => zc 424 [(nth v0 0)] fun v1 => zb .neq v1 (I 0) fun v2 => .ite v2 (zr [(I 0), v1]) (zn (nth v0 0) fun v3 => zf 4 v3 fun v4 => (a393x0 v4))
theorem e393 : denFn prog f393 [2, 3] = a393 := by kernel_rfl
def a394x0 (v0 : List AV) : AC := zn (nth v0 0) fun b3 => zf 6 b3 fun b4 => zl b4 fun b5 => zc 85 [b5] fun b6 => .op (.part 0 1 false b6) fun b7 => zr [b7]
def a394x1 (v0 : List AV) (v4 v6 : AV) : AC := zl v6 fun v7 => zb .add v4 v7 fun v8 => zc 237 [(nth v0 1), v8] fun v9 => zn (nth v0 0) fun b0 => zf 6 b0 fun b1 => zs b1 v9 fun b2 => (a394x0 v0)
def a394 : List AV → AC := fun v0 => zn (nth v0 0) fun v1 => zf 0 v1 fun v2 => zf 0 v2 fun v3 => zl v3 fun v4 => zn (nth v0 0) fun v5 => zf 5 v5 fun v6 => (a394x1 v0 v4 v6)
theorem e394 : denFn prog f394 [] = a394 := by kernel_rfl
def a395x0 (v0 : List AV) : AC := zn (nth v0 0) fun v8 => zf 0 v8 fun v9 => zc 345 [v9, (I 0)] fun b0 => zm []
def a395x1 (v0 : List AV) (v6 : AV) : AC := zc 425 [v6, (nth v0 1), (I 2), (I 0), (I 1)] fun v7 => .bind (.ite v7 (a395x0 v0) (zm [])) none (fun v8 => zr []) (fun v8 => [])
def a395 : List AV → AC := fun v0 => zn (nth v0 0) fun v1 => zf 0 v1 fun v2 => zf 8 v2 fun v3 => .op (.store 1 v3 (.fn (.func 344) [(nth v0 0)] [])) fun v4 => zn (nth v0 0) fun v5 => zf 0 v5 fun v6 => (a395x1 v0 v6)
theorem e395 : denFn prog f395 [] = a395 := by kernel_rfl
def a396x0 (v0 : List AV) (v3 v6 : AV) : AC := zs v6 v3 fun v7 => zn (nth v0 0) fun v8 => zf 9 v8 fun v9 => .op (.store 1 v9 (zF 426)) fun b0 => zr []
def a396 : List AV → AC := fun v0 => zn (nth v0 0) fun v1 => zf 0 v1 fun v2 => zc 390 [v2, (nth v0 1)] fun v3 => zn (nth v0 0) fun v4 => zf 0 v4 fun v5 => zf 5 v5 fun v6 => (a396x0 v0 v3 v6)
theorem e396 : denFn prog f396 [] = a396 := by kernel_rfl
def a398x0 (v0 : List AV) : AC := zn (nth v0 0) fun bk => zf 0 bk fun bl => zc 353 [bl, (I 7)] fun bm => zm []
def a398x1 (v0 : List AV) : AC := zn (nth v0 0) fun bk => zf 0 bk fun bl => zf 4 bl fun bm => .op (.store 1 bm (.fn (.func 430) [(nth v0 0)] [])) fun bn => zm []
def a398x2 (v0 : List AV) (bh bi : AV) : AC := zc 186 [bh, bi] fun bj => .bind (.ite bj (a398x0 v0) (a398x1 v0)) none (fun bk => zm []) (fun bk => [])
def a398x3 (v0 : List AV) (ba be : AV) : AC := .ite be (zn (nth v0 0) fun bf => zf 0 bf fun bg => zf 4 bg fun bh => .op (.store 1 bh (.fn (.func 429) [(nth v0 0)] [])) fun bi => zm []) (zn (nth v0 0) fun bf => zf 9 bf fun bg => zl bg fun bh => .op (.bin .sub ba (.sc (.int .u32 1))) fun bi => (a398x2 v0 bh bi))
def a398x4 (v0 : List AV) (ba bb : AV) : AC := zf 9 bb fun bc => zl bc fun bd => zc 428 [bd, ba] fun be => .bind (a398x3 v0 ba be) none (fun bf => zm []) (fun bf => [])
def a398x5 (v0 : List AV) (b6 b8 : AV) : AC := zl b8 fun b9 => zc 187 [b6, b9] fun ba => .bind (zn (nth v0 0) fun bb => (a398x4 v0 ba bb)) (some 0) (fun bb => zr []) (fun bb => [])
def a398x6 (v0 : List AV) : AC := zn (nth v0 0) fun b3 => zf 0 b3 fun b4 => zf 0 b4 fun b5 => .op (.load 4 true b5) fun b6 => zn (nth v0 0) fun b7 => zf 8 b7 fun b8 => (a398x5 v0 b6 b8)
def a398x7 (v0 : List AV) (v4 v6 : AV) : AC := zl v6 fun v7 => zc 138 [v4, v7] fun v8 => zc 237 [(nth v0 1), v8] fun v9 => zn (nth v0 0) fun b0 => zf 9 b0 fun b1 => zs b1 v9 fun b2 => (a398x6 v0)
def a398 : List AV → AC := fun v0 => zn (nth v0 0) fun v1 => zf 0 v1 fun v2 => zf 0 v2 fun v3 => .op (.load 4 true v3) fun v4 => zn (nth v0 0) fun v5 => zf 8 v5 fun v6 => (a398x7 v0 v4 v6)
theorem e398 : denFn prog f398 [] = a398 := by kernel_rfl
def a399x0 (v0 : List AV) : AC := .op (.build [(.sc (.string ⟨#[]⟩)), (.sc (.string ⟨#[]⟩)), (.sc (.string ⟨#[]⟩)), (.sc (.string ⟨#[]⟩)), (.sc (.string ⟨#[]⟩)), (.sc (.string ⟨#[]⟩))] [(0, 1, (.sc (.string ⟨#[]⟩))), (1, 1, (.sc (.string ⟨#[102, 114, 101, 101]⟩))), (2, 1, (.sc (.string ⟨#[114, 101, 108, 101, 97, 115, 101, 100]⟩))), (3, 1, (.sc (.string ⟨#[114, 101, 97, 100, 121]⟩))), (4, 1, (.sc (.string ⟨#[99, 108, 97, 105, 109, 101, 100]⟩))), (5, 1, (.sc (.string ⟨#[100, 111, 110, 101]⟩)))]) fun v5 => .op (.aidx 6 1 false v5 (nth v0 0)) fun v6 => zr [v6]
def a399 : List AV → AC := fun v0 => zb .lss (nth v0 0) (I 1) fun v1 => zu v1 (.mv (nth v0 0)) fun v2 => zu v1 (.bin .gtr v2 (I 5)) fun v3 => zi v1 (B true) v3 fun v4 => .ite v4 (zr [(.sc (.string ⟨#[110, 111, 110, 101]⟩))]) (a399x0 v0)
theorem e399 : denFn prog f399 [2] = a399 := by kernel_rfl
def a400x0 (v1 v2 v3 : AV) : AC := .op (.build [(B false), (B false), (B false), (B false), (B false), (B false)] [(3, 1, (B true)), (5, 1, (B true))]) fun v4 => .op (.build (List.replicate 36 (B false)) [(12, 6, v2), (18, 6, v3), (24, 6, v4)]) fun v5 => .op (.store 36 v1 v5) fun v6 => zr [v1]
def a400 : List AV → AC := fun v0 => .fin (.op (.alloc (List.replicate 36 (B false))) fun v1 => .op (.build [(B false), (B false), (B false), (B false), (B false), (B false)] [(3, 1, (B true))]) fun v2 => .op (.build [(B false), (B false), (B false), (B false), (B false), (B false)] [(2, 1, (B true)), (4, 1, (B true))]) fun v3 => (a400x0 v1 v2 v3)) fun v1 => .op (.load 36 true (nth v1 0)) fun v2 => zr [v2]
theorem e400 : denFn prog f400 [] = a400 := by kernel_rfl
def a401x0 (v0 : List AV) (v4 : AV) : AC := .ite v4 (zn (nth v0 0) fun v5 => zf 13 v5 fun v6 => zl v6 fun v7 => zm [v7]) (zm [(I 0)])
def a401x1 (v0 : List AV) (b5 : AV) : AC := .ite b5 (zn (nth v0 0) fun b6 => zf 0 b6 fun b7 => zc 345 [b7, (I 0)] fun b8 => zm []) (zm [])
def a401x2 (v0 v5 : List AV) (b1 : AV) : AC := zn (nth v0 0) fun b2 => zf 12 b2 fun b3 => zl b3 fun b4 => zc 425 [b1, (nth v0 1), b4, (nth v5 0), (I 0)] fun b5 => .bind (a401x1 v0 b5) none (fun b6 => zr []) (fun b6 => [])
def a401x3 (v0 v5 : List AV) : AC := zn (nth v0 0) fun v6 => zf 0 v6 fun v7 => zf 8 v7 fun v8 => .op (.store 1 v8 (.fn (.func 357) [(nth v0 0)] [])) fun v9 => zn (nth v0 0) fun b0 => zf 0 b0 fun b1 => (a401x2 v0 v5 b1)
def a401 : List AV → AC := fun v0 => zn (nth v0 0) fun v1 => zf 12 v1 fun v2 => zl v2 fun v3 => zb .eql v3 (I 4) fun v4 => .bind (a401x0 v0 v4) none (fun v5 => (a401x3 v0 v5)) (fun v5 => [])
theorem e401 : denFn prog f401 [4] = a401 := by kernel_rfl
def a402x0 (v0 : List AV) : AC := zn (nth v0 0) fun bg => zf 0 bg fun bh => zc 353 [bh, (I 0)] fun bi => zm []
def a402x1 (v0 : List AV) (v9 bb : AV) : AC := .ite bb (zc 139 [v9] fun bc => zn (nth v0 0) fun bd => zf 8 bd fun be => zs be bc fun bf => (a402x0 v0)) (zm [])
def a402x2 (v0 : List AV) (v9 b6 b8 : AV) : AC := zl b8 fun b9 => zc 187 [b6, b9] fun ba => zc 186 [v9, ba] fun bb => .bind (a402x1 v0 v9 bb) none (fun bc => zr []) (fun bc => [])
def a402x3 (v0 : List AV) (v9 : AV) : AC := zn (nth v0 0) fun b3 => zf 0 b3 fun b4 => zf 0 b4 fun b5 => .op (.load 4 true b5) fun b6 => zn (nth v0 0) fun b7 => zf 7 b7 fun b8 => (a402x2 v0 v9 b6 b8)
def a402x4 (v0 : List AV) (v4 v6 : AV) : AC := zl v6 fun v7 => zc 138 [v4, v7] fun v8 => zc 237 [(nth v0 1), v8] fun v9 => zn (nth v0 0) fun b0 => zf 0 b0 fun b1 => zc 353 [b1, (I 15)] fun b2 => (a402x3 v0 v9)
def a402 : List AV → AC := fun v0 => zn (nth v0 0) fun v1 => zf 0 v1 fun v2 => zf 0 v2 fun v3 => .op (.load 4 true v3) fun v4 => zn (nth v0 0) fun v5 => zf 7 v5 fun v6 => (a402x4 v0 v4 v6)
theorem e402 : denFn prog f402 [] = a402 := by kernel_rfl
def a403x0 (v0 : List AV) (v6 : AV) : AC := zl (nth v0 0) fun v7 => zn v7 fun v8 => zf 13 v8 fun v9 => zl v9 fun b0 => zc 404 [v6, b0] fun b1 => zr [b1]
def a403 : List AV → AC := fun v0 => zl (nth v0 0) fun v1 => zn v1 fun v2 => zf 0 v2 fun v3 => zf 3 v3 fun v4 => zf 6 v4 fun v5 => .op (.load 3 true v5) fun v6 => (a403x0 v0 v6)
theorem e403 : denFn prog f403 [] = a403 := by kernel_rfl
def a404x0 (v5 b4 b6 : AV) : AC := zf 0 b6 fun b7 => .op (.store 3 b7 b4) fun b8 => zr [v5]
def a404x1 (v5 b0 : AV) : AC := zn v5 fun b1 => zf 9 b1 fun b2 => zs b2 b0 fun b3 => .op (.build [Nf, Nf, Nf] [(0, 1, (.fn (.func 433) [v5] [])), (1, 1, (.fn (.func 434) [v5] [])), (2, 1, (.fn (.func 435) [v5] []))]) fun b4 => zn v5 fun b5 => zf 0 b5 fun b6 => (a404x0 v5 b4 b6)
def a404x2 (v0 : List AV) (v1 v5 v6 : AV) : AC := zc 431 [v6, (nth v0 1)] fun v7 => .ite v7 (zn v5 fun v8 => zf 0 v8 fun v9 => zc 432 [v9, (I 3)] fun b0 => zr [v5]) (zf 1 v1 fun v8 => zl v8 fun v9 => zb .add v9 (nth v0 1) fun b0 => (a404x1 v5 b0))
def a404 : List AV → AC := fun v0 => .op (.box (nth v0 0)) fun v1 => .op (.build [Nf, Nf, Nf, (I 0), (B false), (I 0)] [(4, 1, (B true))]) fun v2 => .op (.load 3 true v1) fun v3 => .op (.build [Nf, Nf, Nf, (I 0), (B false), (I 0), (I 0), (I 0), (I 0), (I 0), (.sc (.int .u32 0))] [(0, 6, v2), (6, 3, v3)]) fun v4 => .op (.box v4) fun v5 => .op (.load 3 true v1) fun v6 => (a404x2 v0 v1 v5 v6)
theorem e404 : denFn prog f404 [4] = a404 := by kernel_rfl
def a405x0 (v3 v5 : AV) : AC := zf 15 v5 fun v6 => zs v6 v3 fun v7 => zr []
def a405 : List AV → AC := fun v0 => zl (nth v0 1) fun v1 => zc 406 [(nth v0 0)] fun v2 => .chk (.load 1 false (nth v0 1)) v1 (.op (.extract 0 v2) fun v3 => .op (.extract 1 v2) fun v4 => zn v1 fun v5 => (a405x0 v3 v5))
theorem e405 : denFn prog f405 [] = a405 := by kernel_rfl
def a406x0 (v8 : AV) : AC := .op (.conv .i64 v8) fun v9 => zr [v9, (I 0)]
def a406x1 (v0 : List AV) (v4 : AV) : AC := zb .neq v4 (I 0) fun v5 => .ite v5 (zr [(I 0), v4]) (zn (nth v0 0) fun v6 => zf 10 v6 fun v7 => zl v7 fun v8 => (a406x0 v8))
def a406 : List AV → AC := fun v0 => .op (.eq 542 false (nth v0 0) Np) fun v1 => .ite v1 (zr [(I 0), (I 1)]) (zn (nth v0 0) fun v2 => zf 0 v2 fun v3 => zc 436 [v3] fun v4 => (a406x1 v0 v4))
theorem e406 : denFn prog f406 [2, 3] = a406 := by kernel_rfl
def a407x0 (v6 : AV) : AC := .op (.load 6 true v6) fun v7 => zc 408 [v7] fun v8 => zr [v8]
def a407 : List AV → AC := fun v0 => zl (nth v0 0) fun v1 => zn v1 fun v2 => zf 0 v2 fun v3 => zf 0 v3 fun v4 => zf 3 v4 fun v5 => zf 0 v5 fun v6 => (a407x0 v6)
theorem e407 : denFn prog f407 [] = a407 := by kernel_rfl
def a408x0 (v4 v5 : AV) : AC := .op (.build [Np, (I 0), (I 0), (I 0), (I 0), (I 0), (I 0), (B false), Nf, (I 0), (U 0), (I 0)] [(0, 1, v5), (1, 6, v4), (7, 1, (B true)), (8, 1, (zF 437))]) fun v6 => .op (.box v6) fun v7 => zr [v7]
def a408 : List AV → AC := fun v0 => .op (.box (nth v0 0)) fun v1 => zf 0 v1 fun v2 => .op (.load 3 true v2) fun v3 => .op (.load 6 true v1) fun v4 => zc 269 [v3] fun v5 => .chk (.load 6 true v1) v4 (a408x0 v4 v5)
theorem e408 : denFn prog f408 [] = a408 := by kernel_rfl
def a409x0 (v1 bq : AV) : AC := zf 0 bq fun br => zl v1 fun bs => zn bs fun bt => zf 0 bt fun bu => zl v1 fun bv => .op (.bslice 1 4 [Nf] [(0, 1, (.fn (.func 441) [] [v1])), (1, 1, (.fn (.func 382) [br] [])), (2, 1, (.fn (.func 366) [bu] [])), (3, 1, (.fn (.func 367) [bv] []))]) fun bw => .fail
def a409x1 (v1 bh bk : AV) : AC := zb .add bk (I 1) fun bl => zn bh fun bm => zf 22 bm fun bn => zs bn bl fun bo => zl v1 fun bp => zn bp fun bq => (a409x0 v1 bq)
def a409x2 (b6 : List AV) (bs bt : AV) : AC := zf 0 bt fun bu => zf 16 bu fun bv => zs bv bs fun bw => zr [(nth b6 1), (nth b6 2)]
def a409x3 (v1 : AV) (b6 : List AV) (bn bo : AV) : AC := zn bo fun bp => zf 0 bp fun bq => zc 382 [bq] fun br => .chk (.load 1 false v1) bn (.op (.bslice 1 1 [Ni] [(0, 1, br)]) fun bs => zn bn fun bt => (a409x2 b6 bs bt))
def a409x4 (v1 : AV) (b6 : List AV) (bi : AV) : AC := zn bi fun bj => zf 0 bj fun bk => zf 18 bk fun bl => zs bl (nth b6 2) fun bm => zl v1 fun bn => zl v1 fun bo => (a409x3 v1 b6 bn bo)
def a409x5 (b6 : List AV) (bi bq : AV) : AC := zn bi fun br => zf 0 br fun bs => zf 16 bs fun bt => zs bt bq fun bu => zm [(nth b6 1), (nth b6 2)]
def a409x6 (v1 : AV) (b6 : List AV) (bi bj bm bn bo : AV) : AC := .chk (.load 1 false v1) bi (.chk (.load 1 false v1) bj (.chk (.load 1 false bm) bn (.op (.bslice 1 1 [Ni] [(0, 1, bo)]) fun bp => .op (.append 1 16 bn bp) fun bq => .chk (.load 1 false v1) bi (a409x5 b6 bi bq))))
def a409x7 (v1 : AV) (b6 : List AV) (b9 bi : AV) : AC := zl v1 fun bj => zn bj fun bk => zf 0 bk fun bl => zf 16 bl fun bm => zl bm fun bn => .call b9 [] fun bo => (a409x6 v1 b6 bi bj bm bn bo)
def a409x8 (v1 : AV) (b6 : List AV) (b9 bg : AV) : AC := .ite bg (zl v1 fun bh => zn bh fun bi => zf 22 bi fun bj => zl bj fun bk => (a409x1 v1 bh bk)) (zb .neq (nth b6 2) (I 0) fun bh => .ite bh (zl v1 fun bi => (a409x4 v1 b6 bi)) (zl v1 fun bi => (a409x7 v1 b6 b9 bi)))
def a409x9 (v1 : AV) (b6 : List AV) (b9 ba : AV) : AC := zt ba (.load 1 false v1) fun bb => zt ba (.nilchk bb) fun bc => zt ba (.faddr 22 bc) fun bd => zt ba (.load 1 false bd) fun be => zt ba (.bin .lss be (I 3)) fun bf => zi ba bf (B false) fun bg => (a409x8 v1 b6 b9 bg)
def a409x10 (v1 b4 : AV) (b6 : List AV) : AC := .bind (.op (.saddr 1 b4 (nth b6 0)) fun b8 => zl b8 fun b9 => zb .eql (nth b6 2) (I 7) fun ba => (a409x9 v1 b6 b9 ba)) (some 1) (fun b8 => zb .add (nth b6 0) (I 1) fun b9 => zm [b9, (nth b8 0), (nth b8 1)]) (fun b8 => [(nth b6 0), (nth b8 0), (nth b8 1)])
def a409x11 (v1 v4 b4 b5 : AV) : AC := .loop [(I 0), b4, v4] (fun b6 => zb .lss (nth b6 0) b5 fun b7 => .ite b7 (a409x10 v1 b4 b6) (.ret (.exit 0) [(nth b6 0), (nth b6 1), (nth b6 2)])) (fun b6 => [(nth b6 0), (nth b6 1), (nth b6 2)])
def a409x12 (v1 v4 v9 b0 b2 : AV) : AC := zf 0 b2 fun b3 => .op (.bslice 1 3 [Nf] [(0, 1, (.fn (.func 439) [v9] [])), (1, 1, (.fn (.func 440) [b0] [])), (2, 1, (.fn (.func 382) [b3] []))]) fun b4 => .op (.len false b4) fun b5 => .bind (a409x11 v1 v4 b4 b5) (some 0) (fun b6 => zr []) (fun b6 => [])
def a409x13 (v1 v3 v4 v6 : AV) : AC := zf 23 v6 fun v7 => zs v7 v3 fun v8 => zl v1 fun v9 => zl v1 fun b0 => zl v1 fun b1 => zn b1 fun b2 => (a409x12 v1 v4 v9 b0 b2)
def a409 : List AV → AC := fun v0 => .op (.box (nth v0 0)) fun v1 => zc 438 [(nth v0 1)] fun v2 => .op (.extract 0 v2) fun v3 => .op (.extract 1 v2) fun v4 => zl v1 fun v5 => zn v5 fun v6 => (a409x13 v1 v3 v4 v6)
theorem e409 : denFn prog f409 [5, 6, 29] = a409 := by kernel_rfl
def a410 : List AV → AC := fun v0 => .op (.load 13 true (nth v0 0)) fun v1 => zc 411 [v1] fun v2 => zr [v2]
theorem e410 : denFn prog f410 [] = a410 := by kernel_rfl
def a411 : List AV → AC := fun v0 => .op (.box (nth v0 0)) fun v1 => .op (.load 13 true v1) fun v2 => zc 443 [v2] fun v3 => .op (.build [(I 0), (I 0), (I 0), (I 0), (I 0), (I 0), (I 0), (I 0), (I 0), (I 0), (I 0), (I 0), (I 0), (I 0), (U 0), (I 0), (U 0), (U 0), (I 0), (U 0), (B false), (I 0)] [(0, 22, v3)]) fun v4 => .op (.box v4) fun v5 => zr [v5]
theorem e411 : denFn prog f411 [] = a411 := by kernel_rfl
def a412x0 (v4 : AV) : AC := zl v4 fun v5 => zr [v5]
def a412 : List AV → AC := fun v0 => .op (.eq 559 false (nth v0 0) Np) fun v1 => .ite v1 (zr [(U 0)]) (zn (nth v0 0) fun v2 => zf 0 v2 fun v3 => zf 19 v3 fun v4 => (a412x0 v4))
theorem e412 : denFn prog f412 [2] = a412 := by kernel_rfl
def a413x0 (v2 v5 : AV) : AC := zn v2 fun b0 => zf 19 b0 fun b1 => zf 2 b1 fun b2 => zs b2 v5 fun b3 => zr []
def a413x1 (v0 : List AV) (v1 v2 v3 v4 : AV) : AC := .op (.extract 1 v3) fun v5 => zn v1 fun v6 => zf 19 v6 fun v7 => zf 0 v7 fun v8 => .op (.store 2 v8 v4) fun v9 => .chk (.load 1 false (nth v0 1)) v2 (a413x0 v2 v5)
def a413 : List AV → AC := fun v0 => zl (nth v0 1) fun v1 => zl (nth v0 1) fun v2 => zc 414 [(nth v0 0)] fun v3 => .chk (.load 1 false (nth v0 1)) v1 (.chk (.load 1 false (nth v0 1)) v2 (.op (.extract 0 v3) fun v4 => (a413x1 v0 v1 v2 v3 v4)))
theorem e413 : denFn prog f413 [] = a413 := by kernel_rfl
def a414x0 (v1 : AV) : AC := .op (.build [(U 0), (I 0)] []) fun v3 => .op (.store 2 v1 v3) fun v4 => zr [v1, (I 1)]
def a414x1 (v0 : List AV) (v1 : AV) : AC := zn (nth v0 0) fun v3 => zf 0 v3 fun v4 => zc 444 [v4] fun v5 => .op (.extract 0 v5) fun v6 => .op (.extract 1 v5) fun v7 => .op (.store 2 v1 v6) fun v8 => zr [v1, v7]
def a414 : List AV → AC := fun v0 => .fin (.op (.alloc [(U 0), (I 0)]) fun v1 => .op (.eq 559 false (nth v0 0) Np) fun v2 => .ite v2 (a414x0 v1) (a414x1 v0 v1)) fun v1 => .op (.load 2 true (nth v1 0)) fun v2 => zr [v2, (nth v1 1)]
theorem e414 : denFn prog f414 [3] = a414 := by kernel_rfl
def a415x0 (v2 v6 v7 : AV) : AC := zl v7 fun v8 => .op (.store 2 v2 v6) fun v9 => .chk (.load 1 false v7) v8 (zr [v2, v8])
def a415x1 (v1 v2 v3 : AV) : AC := zb .neq v3 (I 0) fun v4 => .ite v4 (.op (.build [(U 0), (I 0)] []) fun v5 => .op (.store 2 v2 v5) fun v6 => zr [v2, v3]) (zf 0 v1 fun v5 => .op (.load 2 true v5) fun v6 => zf 2 v1 fun v7 => (a415x0 v2 v6 v7))
def a415 : List AV → AC := fun v0 => .fin (.op (.box (nth v0 0)) fun v1 => .op (.alloc [(U 0), (I 0)]) fun v2 => zc 368 [(nth v0 1)] fun v3 => (a415x1 v1 v2 v3)) fun v1 => .op (.load 2 true (nth v1 0)) fun v2 => zr [v2, (nth v1 1)]
theorem e415 : denFn prog f415 [5] = a415 := by kernel_rfl
def a416x0 (v2 v7 : AV) : AC := .op (.store 26 v2 v7) fun v8 => zr [v2]
def a416x1 (v1 v2 v3 : AV) : AC := zc 445 [v3, (I (-1)), (I 0)] fun v4 => zb .lss v4 (I 0) fun v5 => .ite v5 (.op (.build [(I 0), (I 0), (I 0), (I 0), (I 0), (I 0), (I 0), (I 0), (I 0), (I 0), (I 0), (I 0), (I 0), (I 0), (B false), Np, Np, (I 0), (U 0), (I 0), (U 0), (U 0), (I 0), (U 0), (B false), (I 0)] [(24, 1, (B true)), (17, 1, (I 99)), (25, 1, (I 2))]) fun v6 => .op (.store 26 v2 v6) fun v7 => zr [v2]) (.op (.load 13 true v1) fun v6 => .op (.build [(I 0), (I 0), (I 0), (I 0), (I 0), (I 0), (I 0), (I 0), (I 0), (I 0), (I 0), (I 0), (I 0), (I 0), (B false), Np, Np, (I 0), (U 0), (I 0), (U 0), (U 0), (I 0), (U 0), (B false), (I 0)] [(0, 13, v6), (24, 1, (B true)), (17, 1, (I 1))]) fun v7 => (a416x0 v2 v7))
def a416 : List AV → AC := fun v0 => .fin (.op (.box (nth v0 0)) fun v1 => .op (.alloc [(I 0), (I 0), (I 0), (I 0), (I 0), (I 0), (I 0), (I 0), (I 0), (I 0), (I 0), (I 0), (I 0), (I 0), (B false), Np, Np, (I 0), (U 0), (I 0), (U 0), (U 0), (I 0), (U 0), (B false), (I 0)]) fun v2 => .op (.load 13 true v1) fun v3 => (a416x1 v1 v2 v3)) fun v1 => .op (.load 26 true (nth v1 0)) fun v2 => zr [v2]
theorem e416 : denFn prog f416 [] = a416 := by kernel_rfl
def a417x0 (v1 : AV) : AC := .op (.build [(U 0), (I 0)] []) fun v6 => .op (.store 2 v1 v6) fun v7 => zr [(I 1)]
def a417x1 (v1 : AV) : AC := .op (.build [(U 0), (I 0)] []) fun b0 => .op (.store 2 v1 b0) fun b1 => zr [(I 14)]
def a417x2 (v0 : List AV) (v1 : AV) : AC := .op (.build [(U 0), (I 0)] []) fun b4 => zn (nth v0 0) fun b5 => zf 25 b5 fun b6 => zl b6 fun b7 => .op (.store 2 v1 b4) fun b8 => .chk (.load 1 false b6) b7 (zr [b7])
def a417x3 (v0 : List AV) (v1 : AV) : AC := zn (nth v0 0) fun b0 => zf 25 b0 fun b1 => zl b1 fun b2 => zb .neq b2 (I 0) fun b3 => .ite b3 (a417x2 v0 v1) (zm [(I 0)])
def a417x4 (v0 : List AV) (v1 : AV) : AC := zn (nth v0 0) fun v6 => zf 17 v6 fun v7 => zl v7 fun v8 => zb .neq v8 (I 99) fun v9 => .ite v9 (a417x1 v1) (a417x3 v0 v1)
def a417x5 (v0 : List AV) (v1 : AV) : AC := zn (nth v0 0) fun v2 => zf 24 v2 fun v3 => zl v3 fun v4 => .op (.un .not v4) fun v5 => .ite v5 (a417x0 v1) (a417x4 v0 v1)
def a417x6 (v0 : List AV) (v1 : AV) : AC := zn (nth v0 0) fun v3 => zf 21 v3 fun v4 => .op (.load 2 true v4) fun v5 => .op (.store 2 v1 v5) fun v6 => zr [v1, (I 0)]
def a417 : List AV → AC := fun v0 => .fin (.op (.alloc [(U 0), (I 0)]) fun v1 => .bind (a417x5 v0 v1) (some 0) (fun v2 => (a417x6 v0 v1)) (fun v2 => [v1, (nth v2 0)])) fun v1 => .op (.load 2 true (nth v1 0)) fun v2 => zr [v2, (nth v1 1)]
theorem e417 : denFn prog f417 [3] = a417 := by kernel_rfl
def a418x0 (v0 : List AV) (v6 : AV) : AC := zl (nth v0 0) fun v7 => zn v7 fun v8 => zf 13 v8 fun v9 => zl v9 fun b0 => zc 419 [v6, b0] fun b1 => zr [b1]
def a418 : List AV → AC := fun v0 => zl (nth v0 0) fun v1 => zn v1 fun v2 => zf 0 v2 fun v3 => zf 3 v3 fun v4 => zf 6 v4 fun v5 => .op (.load 3 true v5) fun v6 => (a418x0 v0 v6)
theorem e418 : denFn prog f418 [] = a418 := by kernel_rfl
def a419x0 (v7 b0 : AV) : AC := zf 0 b0 fun b1 => zc 432 [b1, (I 3)] fun b2 => zr [v7]
def a419x1 (v7 b0 : AV) : AC := zf 0 b0 fun b1 => zf 0 b1 fun b2 => .op (.paddr 3 1 b2 (I 0)) fun b3 => .op (.store 1 b3 (.fn (.func 446) [v7] [])) fun b4 => zr [v7]
def a419x2 (v0 : List AV) (v1 v6 : AV) : AC := .op (.box v6) fun v7 => .op (.load 3 true v1) fun v8 => zc 431 [v8, (nth v0 1)] fun v9 => .ite v9 (zn v7 fun b0 => (a419x0 v7 b0)) (zn v7 fun b0 => (a419x1 v7 b0))
def a419 : List AV → AC := fun v0 => .op (.box (nth v0 0)) fun v1 => .op (.build [Nf, Nf, Nf, (I 0), (B false), (I 0)] [(4, 1, (B true))]) fun v2 => zf 1 v1 fun v3 => zl v3 fun v4 => zb .add v4 (nth v0 1) fun v5 => .op (.build [Nf, Nf, Nf, (I 0), (B false), (I 0), (I 0)] [(0, 6, v2), (6, 1, v5)]) fun v6 => (a419x2 v0 v1 v6)
theorem e419 : denFn prog f419 [4] = a419 := by kernel_rfl
def a420x0 (v0 v3 : List AV) (v8 : AV) : AC := .op (.saddr 2 (nth v0 0) (nth v3 0)) fun b1 => .op (.store 2 b1 v8) fun b2 => zm []
def a420x1 (v0 v3 : List AV) : AC := .op (.saddr 2 (nth v0 0) (nth v3 0)) fun v5 => .op (.load 2 true v5) fun v6 => .op (.saddr 2 (nth v0 0) (nth v3 1)) fun v7 => .op (.load 2 true v7) fun v8 => .op (.saddr 2 (nth v0 0) (nth v3 1)) fun v9 => .op (.store 2 v9 v6) fun b0 => (a420x0 v0 v3 v8)
def a420x2 (v3 : List AV) : AC := zb .add (nth v3 1) (I 1) fun v6 => zb .sub (nth v3 0) (I 1) fun v7 => zm [v7, v6]
def a420x3 (v0 v3 : List AV) : AC := zb .lss (nth v3 1) (nth v3 0) fun v4 => .ite v4 (.bind (a420x1 v0 v3) (some 1) (fun v5 => (a420x2 v3)) (fun v5 => [(nth v3 0), (nth v3 1)])) (.ret (.exit 0) [(nth v3 0), (nth v3 1)])
def a420 : List AV → AC := fun v0 => .op (.len false (nth v0 0)) fun v1 => zb .sub v1 (I 1) fun v2 => .bind (.loop [v2, (I 0)] (fun v3 => (a420x3 v0 v3)) (fun v3 => [(nth v3 0), (nth v3 1)])) (some 0) (fun v3 => zr []) (fun v3 => [])
theorem e420 : denFn prog f420 [2, 3] = a420 := by kernel_rfl
def a421x0 (b0 : AV) : AC := zn b0 fun b1 => zl b1 fun b2 => zr [b2, (B false)]
def a421x1 (v1 v5 v6 : AV) : AC := zl v6 fun v7 => zb .neq v5 v7 fun v8 => .ite v8 (zf 0 v1 fun v9 => zl v9 fun b0 => (a421x0 b0)) (zf 2 v1 fun v9 => zl v9 fun b0 => zr [b0, (B true)])
def a421 : List AV → AC := fun v0 => .op (.box (nth v0 0)) fun v1 => zf 0 v1 fun v2 => zl v2 fun v3 => zn v3 fun v4 => zl v4 fun v5 => zf 1 v1 fun v6 => (a421x1 v1 v5 v6)
theorem e421 : denFn prog f421 [2, 3] = a421 := by kernel_rfl
def a422x0 (v5 : AV) : AC := zf 0 v5 fun b2 => zl b2 fun b3 => zr [b3]
def a422x1 (v1 v5 : AV) : AC := zf 0 v5 fun v7 => zl v7 fun v8 => zf 2 v1 fun v9 => zl v9 fun b0 => zb .geq v8 b0 fun b1 => .ite b1 (zr [(I (-1))]) (a422x0 v5)
def a422 : List AV → AC := fun v0 => .op (.box (nth v0 0)) fun v1 => zc 447 [(nth v0 1)] fun v2 => .op (.extract 0 v2) fun v3 => .op (.extract 1 v2) fun v4 => .op (.alloc [(I 0), (I 0)]) fun v5 => .op (.store 2 v5 v3) fun v6 => (a422x1 v1 v5)
theorem e422 : denFn prog f422 [4] = a422 := by kernel_rfl
def a423x0 (v0 : List AV) (b0 : AV) : AC := .ite b0 (zn (nth v0 0) fun b1 => zf 0 b1 fun b2 => zc 391 [b2, (I 0)] fun b3 => zm []) (zm [])
def a423x1 (v0 : List AV) (v5 v6 : AV) : AC := zf 0 v6 fun v7 => zf 5 v7 fun v8 => zl v8 fun v9 => zc 448 [v5, (nth v0 1), v9] fun b0 => .bind (a423x0 v0 b0) none (fun b1 => zr []) (fun b1 => [])
def a423 : List AV → AC := fun v0 => zn (nth v0 0) fun v1 => zf 9 v1 fun v2 => .op (.store 1 v2 (zF 341)) fun v3 => zn (nth v0 0) fun v4 => zf 0 v4 fun v5 => zn (nth v0 0) fun v6 => (a423x1 v0 v5 v6)
theorem e423 : denFn prog f423 [] = a423 := by kernel_rfl
def a424x0 (v0 : List AV) : AC := zn (nth v0 0) fun v8 => zf 7 v8 fun v9 => zl v9 fun b0 => .op (.un .not b0) fun b1 => .ite b1 (zr [(I 14)]) (zm [(I 0)])
def a424x1 (v0 : List AV) (v1 v3 : AV) : AC := zu v1 (.faddr 6 v3) fun v4 => zu v1 (.load 1 false v4) fun v5 => zu v1 (.un .not v5) fun v6 => zi v1 (B true) v6 fun v7 => .ite v7 (zr [(I 1)]) (a424x0 v0)
def a424 : List AV → AC := fun v0 => .bind (.op (.eq 587 false (nth v0 0) Np) fun v1 => zu v1 (.mv (nth v0 0)) fun v2 => zu v1 (.nilchk v2) fun v3 => (a424x1 v0 v1 v3)) (some 0) (fun v1 => zn (nth v0 0) fun v2 => zf 8 v2 fun v3 => zl v3 fun v4 => zr [v4]) (fun v1 => [(nth v1 0)])
theorem e424 : denFn prog f424 [2] = a424 := by kernel_rfl
def a425x0 (v0 : List AV) (v7 b0 b1 b3 b4 b5 b7 b8 : AV) : AC := .op (.build [(I 0), (I 0), (I 0)] [(0, 1, (nth v0 2)), (1, 1, (nth v0 3)), (2, 1, v7)]) fun b9 => zc 167 [b9] fun ba => .chk (.load 1 false b0) b1 (.chk (.load 1 false b3) b4 (.chk (.load 1 false b7) b8 (zc 388 [(nth v0 1), b5, b8, ba] fun bb => zr [bb])))
def a425x1 (v0 : List AV) (v7 b0 b1 b2 : AV) : AC := zf 5 b2 fun b3 => zl b3 fun b4 => zb .add b1 b4 fun b5 => zn (nth v0 0) fun b6 => zf 6 b6 fun b7 => zl b7 fun b8 => (a425x0 v0 v7 b0 b1 b3 b4 b5 b7 b8)
def a425x2 (v0 : List AV) (v6 : AV) : AC := zb .and v6 (I 4294967295) fun v7 => zn (nth v0 0) fun v8 => zf 0 v8 fun v9 => zf 0 v9 fun b0 => zl b0 fun b1 => zn (nth v0 0) fun b2 => (a425x1 v0 v7 b0 b1 b2)
def a425 : List AV → AC := fun v0 => zn (nth v0 0) fun v1 => zf 6 v1 fun v2 => zl v2 fun v3 => zc 85 [v3] fun v4 => .op (.part 2 1 false v4) fun v5 => zb .add v5 (nth v0 4) fun v6 => (a425x2 v0 v6)
theorem e425 : denFn prog f425 [] = a425 := by kernel_rfl
def a426x0 (v0 : List AV) : AC := zn (nth v0 0) fun b7 => zf 9 b7 fun b8 => .op (.store 1 b8 (zF 449)) fun b9 => zr []
def a426x1 (v0 : List AV) (v4 v5 v8 v9 b0 b2 : AV) : AC := zf 5 b2 fun b3 => zl b3 fun b4 => zc 257 [b4] fun b5 => .chk (.load 1 false v4) v5 (.chk (.load 1 false v8) v9 (zc 116 [(nth v0 1), b0, b5] fun b6 => (a426x0 v0)))
def a426x2 (v0 : List AV) (v4 v5 v6 : AV) : AC := zf 0 v6 fun v7 => zf 4 v7 fun v8 => zl v8 fun v9 => zb .add v5 v9 fun b0 => zn (nth v0 0) fun b1 => zf 0 b1 fun b2 => (a426x1 v0 v4 v5 v8 v9 b0 b2)
def a426 : List AV → AC := fun v0 => zn (nth v0 0) fun v1 => zf 0 v1 fun v2 => zf 0 v2 fun v3 => zf 1 v3 fun v4 => zl v4 fun v5 => zn (nth v0 0) fun v6 => (a426x2 v0 v4 v5 v6)
theorem e426 : denFn prog f426 [] = a426 := by kernel_rfl
def a428x0 (v3 v6 : AV) : AC := zi v3 v6 (B false) fun v7 => zr [v7]
def a428 : List AV → AC := fun v0 => zb .shr (nth v0 0) (U 32) fun v1 => .op (.conv .u32 v1) fun v2 => zb .eql v2 (nth v0 1) fun v3 => zt v3 (.mv (nth v0 0)) fun v4 => zt v3 (.bin .and v4 (U 65536)) fun v5 => zt v3 (.bin .eql v5 (U 0)) fun v6 => (a428x0 v3 v6)
theorem e428 : denFn prog f428 [] = a428 := by kernel_rfl
def a429x0 (v0 : List AV) : AC := zn (nth v0 0) fun bk => zf 0 bk fun bl => zf 4 bl fun bm => .op (.store 1 bm (.fn (.func 452) [(nth v0 0)] [])) fun bn => zm []
def a429x1 (v0 : List AV) (b3 b4 bf bi : AV) : AC := .chk (.load 1 false b3) b4 (zc 388 [(nth v0 1), bf, b4, bi] fun bj => .bind (.ite bj (a429x0 v0) (zm [])) none (fun bk => zr []) (fun bk => []))
def a429x2 (v0 : List AV) (b3 b4 bd be bf bg : AV) : AC := .chk (.load 1 false b3) b4 (.chk (.load 1 false bd) be (zc 369 [bg] fun bh => .chk (.load 1 false b3) b4 (.chk (.load 1 false bd) be (zc 451 [bh, be] fun bi => (a429x1 v0 b3 b4 bf bi)))))
def a429x3 (v0 : List AV) (v8 b1 b3 b4 b7 b8 ba bb bd be : AV) : AC := zc 138 [v8, b1] fun bf => .chk (.load 1 false b3) b4 (.chk (.load 4 true b7) b8 (.chk (.load 1 false ba) bb (.chk (.load 1 false bd) be (zc 187 [b8, bb] fun bg => (a429x2 v0 b3 b4 bd be bf bg)))))
def a429x4 (v0 : List AV) (v8 b1 b3 b4 b7 b8 : AV) : AC := zn (nth v0 0) fun b9 => zf 8 b9 fun ba => zl ba fun bb => zn (nth v0 0) fun bc => zf 7 bc fun bd => zl bd fun be => (a429x3 v0 v8 b1 b3 b4 b7 b8 ba bb bd be)
def a429x5 (v0 : List AV) (v8 b1 b2 : AV) : AC := zf 9 b2 fun b3 => zl b3 fun b4 => zn (nth v0 0) fun b5 => zf 0 b5 fun b6 => zf 0 b6 fun b7 => .op (.load 4 true b7) fun b8 => (a429x4 v0 v8 b1 b3 b4 b7 b8)
def a429x6 (v0 : List AV) (v6 : AV) : AC := zf 0 v6 fun v7 => .op (.load 4 true v7) fun v8 => zn (nth v0 0) fun v9 => zf 8 v9 fun b0 => zl b0 fun b1 => zn (nth v0 0) fun b2 => (a429x5 v0 v8 b1 b2)
def a429 : List AV → AC := fun v0 => zn (nth v0 0) fun v1 => zf 0 v1 fun v2 => zf 4 v2 fun v3 => .op (.store 1 v3 (.fn (.func 430) [(nth v0 0)] [])) fun v4 => zn (nth v0 0) fun v5 => zf 0 v5 fun v6 => (a429x6 v0 v6)
theorem e429 : denFn prog f429 [] = a429 := by kernel_rfl
def a431x0 (v2 v6 : AV) : AC := zi v2 (B true) v6 fun v7 => zr [v7]
def a431 : List AV → AC := fun v0 => .op (.box (nth v0 0)) fun v1 => zb .lss (nth v0 1) (I 0) fun v2 => zu v2 (.mv (nth v0 1)) fun v3 => zu v2 (.faddr 2 v1) fun v4 => zu v2 (.load 1 false v4) fun v5 => zu v2 (.bin .geq v3 v5) fun v6 => (a431x0 v2 v6)
theorem e431 : denFn prog f431 [] = a431 := by kernel_rfl
def a432 : List AV → AC := fun v0 => zn (nth v0 0) fun v1 => zf 3 v1 fun v2 => zs v2 (I (-1)) fun v3 => zn (nth v0 0) fun v4 => zf 5 v4 fun v5 => zs v5 (nth v0 1) fun v6 => zr []
theorem e432 : denFn prog f432 [] = a432 := by kernel_rfl
def a433x0 (b2 : AV) : AC := zs b2 (I 1) fun b3 => zr []
def a433x1 (v0 : List AV) (v6 : AV) : AC := zn (nth v0 0) fun v7 => zf 10 v7 fun v8 => zs v8 v6 fun v9 => zn (nth v0 0) fun b0 => zf 0 b0 fun b1 => zf 3 b1 fun b2 => (a433x0 b2)
def a433 : List AV → AC := fun v0 => zn (nth v0 0) fun v1 => zf 6 v1 fun v2 => zf 0 v2 fun v3 => zl v3 fun v4 => zc 237 [(nth v0 1), v4] fun v5 => .op (.conv .u32 v5) fun v6 => (a433x1 v0 v6)
theorem e433 : denFn prog f433 [] = a433 := by kernel_rfl
def a434x0 (b2 : AV) : AC := zs b2 (I 2) fun b3 => zr []
def a434x1 (v0 : List AV) (v3 v6 : AV) : AC := .op (.conv .u64 v6) fun v7 => zb .add v7 (U 1) fun v8 => zc 116 [(nth v0 1), v3, v8] fun v9 => zn (nth v0 0) fun b0 => zf 0 b0 fun b1 => zf 3 b1 fun b2 => (a434x0 b2)
def a434 : List AV → AC := fun v0 => zn (nth v0 0) fun v1 => zf 9 v1 fun v2 => zl v2 fun v3 => zn (nth v0 0) fun v4 => zf 10 v4 fun v5 => zl v5 fun v6 => (a434x1 v0 v3 v6)
theorem e434 : denFn prog f434 [] = a434 := by kernel_rfl
def a435x0 (v0 : List AV) : AC := zn (nth v0 0) fun b1 => zf 0 b1 fun b2 => zc 432 [b2, (I 0)] fun b3 => zr []
def a435x1 (b6 : AV) : AC := zs b6 (I 1) fun b7 => zr []
def a435x2 (v0 : List AV) (v6 : AV) : AC := zn (nth v0 0) fun b1 => zf 10 b1 fun b2 => zs b2 v6 fun b3 => zn (nth v0 0) fun b4 => zf 0 b4 fun b5 => zf 3 b5 fun b6 => (a435x1 b6)
def a435x3 (v0 : List AV) (v6 : AV) : AC := zn (nth v0 0) fun v7 => zf 10 v7 fun v8 => zl v8 fun v9 => zb .eql v6 v9 fun b0 => .ite b0 (a435x0 v0) (a435x2 v0 v6)
def a435 : List AV → AC := fun v0 => zn (nth v0 0) fun v1 => zf 6 v1 fun v2 => zf 0 v2 fun v3 => zl v3 fun v4 => zc 237 [(nth v0 1), v4] fun v5 => .op (.conv .u32 v5) fun v6 => (a435x3 v0 v6)
theorem e435 : denFn prog f435 [] = a435 := by kernel_rfl
def a436x0 (v7 : AV) : AC := zb .neq v7 (I (-1)) fun v8 => .ite v8 (zr [(I 14)]) (zm [(I 0)])
def a436x1 (v0 : List AV) (v3 : AV) : AC := .op (.un .not v3) fun v4 => .ite v4 (zr [(I 1)]) (zn (nth v0 0) fun v5 => zf 3 v5 fun v6 => zl v6 fun v7 => (a436x0 v7))
def a436 : List AV → AC := fun v0 => .bind (zn (nth v0 0) fun v1 => zf 4 v1 fun v2 => zl v2 fun v3 => (a436x1 v0 v3)) (some 0) (fun v1 => zn (nth v0 0) fun v2 => zf 5 v2 fun v3 => zl v3 fun v4 => zr [v4]) (fun v1 => [(nth v1 0)])
theorem e436 : denFn prog f436 [2] = a436 := by kernel_rfl
def a437x0 (v0 : List AV) : AC := zn (nth v0 0) fun b9 => zf 8 b9 fun ba => .op (.store 1 ba (zF 454)) fun bb => zm []
def a437x1 (v0 : List AV) (b1 : AV) : AC := zb .neq b1 (I 0) fun b8 => .bind (.ite b8 (a437x0 v0) (zm [])) none (fun b9 => zr []) (fun b9 => [])
def a437x2 (v0 : List AV) (b0 b1 : AV) : AC := zn (nth v0 0) fun b2 => zf 9 b2 fun b3 => zs b3 b0 fun b4 => zn (nth v0 0) fun b5 => zf 8 b5 fun b6 => .op (.store 1 b6 (zF 453)) fun b7 => (a437x1 v0 b1)
def a437x3 (v0 : List AV) : AC := zn (nth v0 0) fun v6 => zf 0 v6 fun v7 => zl v7 fun v8 => zc 343 [v8] fun v9 => .op (.extract 0 v9) fun b0 => .op (.extract 1 v9) fun b1 => (a437x2 v0 b0 b1)
def a437 : List AV → AC := fun v0 => zn (nth v0 0) fun v1 => zf 0 v1 fun v2 => zl v2 fun v3 => zc 342 [v3, (nth v0 1)] fun v4 => .op (.un .not v4) fun v5 => .ite v5 (zr []) (a437x3 v0)
theorem e437 : denFn prog f437 [] = a437 := by kernel_rfl
def a438x0 (v0 : List AV) : AC := zn (nth v0 0) fun v8 => zf 8 v8 fun v9 => zl v9 fun b0 => .op (.eq 597 true b0 Nf) fun b1 => .ite b1 (zr [(I 14), (U 0)]) (zm [(I 0), (U 0)])
def a438x1 (v0 : List AV) (v1 v3 : AV) : AC := zu v1 (.faddr 7 v3) fun v4 => zu v1 (.load 1 false v4) fun v5 => zu v1 (.un .not v5) fun v6 => zi v1 (B true) v6 fun v7 => .ite v7 (zr [(I 1), (U 0)]) (a438x0 v0)
def a438x2 (v0 : List AV) (v4 : AV) : AC := zn (nth v0 0) fun v5 => zf 11 v5 fun v6 => zl v6 fun v7 => zr [v4, v7]
def a438 : List AV → AC := fun v0 => .bind (.op (.eq 550 false (nth v0 0) Np) fun v1 => zu v1 (.mv (nth v0 0)) fun v2 => zu v1 (.nilchk v2) fun v3 => (a438x1 v0 v1 v3)) (some 0) (fun v1 => zn (nth v0 0) fun v2 => zf 10 v2 fun v3 => zl v3 fun v4 => (a438x2 v0 v4)) (fun v1 => [(nth v1 1), (nth v1 0)])
theorem e438 : denFn prog f438 [2, 3] = a438 := by kernel_rfl
def a439 : List AV → AC := fun v0 => .op (.box (nth v0 0)) fun v1 => .op (.build [Nf, Nf, Nf, Np, (B false)] [(0, 1, (.fn (.func 455) [] [v1])), (1, 1, (zF 457))]) fun v2 => .op (.box v2) fun v3 => zr [(.iface 616 v3)]
theorem e439 : denFn prog f439 [] = a439 := by kernel_rfl
def a440 : List AV → AC := fun v0 => .op (.box (nth v0 0)) fun v1 => .op (.build [Nf, Nf, Nf, Np, (B false)] [(0, 1, (.fn (.func 458) [] [v1])), (1, 1, (zF 460))]) fun v2 => .op (.box v2) fun v3 => zr [(.iface 624 v3)]
theorem e440 : denFn prog f440 [] = a440 := by kernel_rfl
def a443x0 (v2 v7 : AV) : AC := .op (.store 22 v2 v7) fun v8 => zr [v2]
def a443x1 (v1 v2 v3 : AV) : AC := zc 445 [v3, (I (-1)), (I 0)] fun v4 => zb .lss v4 (I 0) fun v5 => .ite v5 (.op (.build [(I 0), (I 0), (I 0), (I 0), (I 0), (I 0), (I 0), (I 0), (I 0), (I 0), (I 0), (I 0), (I 0), (I 0), (U 0), (I 0), (U 0), (U 0), (I 0), (U 0), (B false), (I 0)] [(20, 1, (B true)), (13, 1, (I 99)), (21, 1, (I 2))]) fun v6 => .op (.store 22 v2 v6) fun v7 => zr [v2]) (.op (.load 13 true v1) fun v6 => .op (.build [(I 0), (I 0), (I 0), (I 0), (I 0), (I 0), (I 0), (I 0), (I 0), (I 0), (I 0), (I 0), (I 0), (I 0), (U 0), (I 0), (U 0), (U 0), (I 0), (U 0), (B false), (I 0)] [(0, 13, v6), (20, 1, (B true)), (13, 1, (I 1))]) fun v7 => (a443x0 v2 v7))
def a443 : List AV → AC := fun v0 => .fin (.op (.box (nth v0 0)) fun v1 => .op (.alloc [(I 0), (I 0), (I 0), (I 0), (I 0), (I 0), (I 0), (I 0), (I 0), (I 0), (I 0), (I 0), (I 0), (I 0), (U 0), (I 0), (U 0), (U 0), (I 0), (U 0), (B false), (I 0)]) fun v2 => .op (.load 13 true v1) fun v3 => (a443x1 v1 v2 v3)) fun v1 => .op (.load 22 true (nth v1 0)) fun v2 => zr [v2]
theorem e443 : denFn prog f443 [] = a443 := by kernel_rfl
def a444x0 (v1 : AV) : AC := .op (.build [(U 0), (I 0)] []) fun v6 => .op (.store 2 v1 v6) fun v7 => zr [(I 1)]
def a444x1 (v1 : AV) : AC := .op (.build [(U 0), (I 0)] []) fun b0 => .op (.store 2 v1 b0) fun b1 => zr [(I 14)]
def a444x2 (v0 : List AV) (v1 : AV) : AC := .op (.build [(U 0), (I 0)] []) fun b4 => zn (nth v0 0) fun b5 => zf 21 b5 fun b6 => zl b6 fun b7 => .op (.store 2 v1 b4) fun b8 => .chk (.load 1 false b6) b7 (zr [b7])
def a444x3 (v0 : List AV) (v1 : AV) : AC := zn (nth v0 0) fun b0 => zf 21 b0 fun b1 => zl b1 fun b2 => zb .neq b2 (I 0) fun b3 => .ite b3 (a444x2 v0 v1) (zm [(I 0)])
def a444x4 (v0 : List AV) (v1 : AV) : AC := zn (nth v0 0) fun v6 => zf 13 v6 fun v7 => zl v7 fun v8 => zb .neq v8 (I 99) fun v9 => .ite v9 (a444x1 v1) (a444x3 v0 v1)
def a444x5 (v0 : List AV) (v1 : AV) : AC := zn (nth v0 0) fun v2 => zf 20 v2 fun v3 => zl v3 fun v4 => .op (.un .not v4) fun v5 => .ite v5 (a444x0 v1) (a444x4 v0 v1)
def a444x6 (v0 : List AV) (v1 : AV) : AC := zn (nth v0 0) fun v3 => zf 17 v3 fun v4 => .op (.load 2 true v4) fun v5 => .op (.store 2 v1 v5) fun v6 => zr [v1, (I 0)]
def a444 : List AV → AC := fun v0 => .fin (.op (.alloc [(U 0), (I 0)]) fun v1 => .bind (a444x5 v0 v1) (some 0) (fun v2 => (a444x6 v0 v1)) (fun v2 => [v1, (nth v2 0)])) fun v1 => .op (.load 2 true (nth v1 0)) fun v2 => zr [v2, (nth v1 1)]
theorem e444 : denFn prog f444 [3] = a444 := by kernel_rfl
def a445x0 (v0 : List AV) (v1 : AV) : AC := .op (.load 13 true v1) fun v6 => zb .add (I 4) (nth v0 2) fun v7 => zc 83 [v6, (nth v0 1), v7] fun v8 => zr [v8]
def a445 : List AV → AC := fun v0 => .op (.box (nth v0 0)) fun v1 => zb .lss (nth v0 2) (I 0) fun v2 => zu v2 (.mv (nth v0 2)) fun v3 => zu v2 (.bin .geq v3 (I 4)) fun v4 => zi v2 (B true) v4 fun v5 => .ite v5 (zr [(I (-1))]) (a445x0 v0 v1)
theorem e445 : denFn prog f445 [6] = a445 := by kernel_rfl
def a446x0 (v6 : AV) : AC := zc 432 [v6, (I 0)] fun v7 => zr []
def a446 : List AV → AC := fun v0 => zn (nth v0 0) fun v1 => zf 6 v1 fun v2 => zl v2 fun v3 => zc 116 [(nth v0 1), v3, (U 0)] fun v4 => zn (nth v0 0) fun v5 => zf 0 v5 fun v6 => (a446x0 v6)
theorem e446 : denFn prog f446 [] = a446 := by kernel_rfl
def a447x0 (v0 : List AV) (v1 v7 v8 v9 : AV) : AC := .chk (.load 2 true v7) v8 (zb .sub v9 (I 1) fun b0 => zc 363 [(nth v0 0), v8] fun b1 => .op (.build [(I 0), (I 0)] [(0, 1, b0), (1, 1, b1)]) fun b2 => .op (.store 2 v1 b2) fun b3 => zr [v1, (I 0)])
def a447x1 (v0 : List AV) (v1 v2 v3 : AV) : AC := .op (.store 4 v3 v2) fun v4 => .op (.paddr 2 2 v3 (I 0)) fun v5 => .op (.load 2 true v5) fun v6 => .op (.paddr 2 2 v3 (I 1)) fun v7 => .op (.load 2 true v7) fun v8 => zc 363 [(nth v0 0), v6] fun v9 => (a447x0 v0 v1 v7 v8 v9)
def a447 : List AV → AC := fun v0 => .fin (.op (.alloc [(I 0), (I 0)]) fun v1 => zc 387 [] fun v2 => .op (.alloc [(I 0), (I 0), (I 0), (I 0)]) fun v3 => (a447x1 v0 v1 v2 v3)) fun v1 => .op (.load 2 true (nth v1 0)) fun v2 => zr [v2, (nth v1 1)]
theorem e447 : denFn prog f447 [] = a447 := by kernel_rfl
def a448x0 (v0 : List AV) (b5 b8 : AV) : AC := zf 0 b8 fun b9 => zl b9 fun ba => zn (nth v0 0) fun bb => zf 3 bb fun bc => zl bc fun bd => zc 388 [(nth v0 1), ba, bd, b5] fun be => zr [be]
def a448x1 (v0 : List AV) (b2 : AV) : AC := .op (.build [(I 0), (I 0)] [(0, 1, (nth v0 2)), (1, 1, b2)]) fun b3 => zc 336 [b3] fun b4 => .op (.extract 0 b4) fun b5 => .op (.extract 1 b4) fun b6 => zn (nth v0 0) fun b7 => zf 0 b7 fun b8 => (a448x0 v0 b5 b8)
def a448x2 (v0 : List AV) (v5 : AV) : AC := .op (.alloc [(I 0), (I 0)]) fun v7 => .op (.store 2 v7 v5) fun v8 => zf 1 v7 fun v9 => zl v9 fun b0 => zb .add b0 (I 1) fun b1 => zb .and b1 (I 281474976710655) fun b2 => (a448x1 v0 b2)
def a448 : List AV → AC := fun v0 => zn (nth v0 0) fun v1 => zf 3 v1 fun v2 => zl v2 fun v3 => zc 447 [v3] fun v4 => .op (.extract 0 v4) fun v5 => .op (.extract 1 v4) fun v6 => (a448x2 v0 v5)
theorem e448 : denFn prog f448 [] = a448 := by kernel_rfl
def a449x0 (v0 : List AV) (b0 : AV) : AC := .ite b0 (zn (nth v0 0) fun b1 => zf 0 b1 fun b2 => zc 391 [b2, (I 0)] fun b3 => zm []) (zm [])
def a449x1 (v0 : List AV) (v5 v6 : AV) : AC := zf 0 v6 fun v7 => zf 4 v7 fun v8 => zl v8 fun v9 => zc 448 [v5, (nth v0 1), v9] fun b0 => .bind (a449x0 v0 b0) none (fun b1 => zr []) (fun b1 => [])
def a449 : List AV → AC := fun v0 => zn (nth v0 0) fun v1 => zf 9 v1 fun v2 => .op (.store 1 v2 (zF 396)) fun v3 => zn (nth v0 0) fun v4 => zf 0 v4 fun v5 => zn (nth v0 0) fun v6 => (a449x1 v0 v5 v6)
theorem e449 : denFn prog f449 [] = a449 := by kernel_rfl
def a450x0 (v0 : List AV) : AC := zn (nth v0 0) fun b1 => zf 0 b1 fun b2 => zf 7 b2 fun b3 => zl b3 fun b4 => zr [b4]
def a450x1 (v0 : List AV) (v6 : AV) : AC := .ite v6 (zr [(B true)]) (zn (nth v0 0) fun v7 => zf 9 v7 fun v8 => zl v8 fun v9 => .call v9 [(nth v0 0), (nth v0 1)] fun b0 => (a450x0 v0))
def a450 : List AV → AC := fun v0 => .op (.eq 473 false (nth v0 0) Np) fun v1 => zu v1 (.mv (nth v0 0)) fun v2 => zu v1 (.nilchk v2) fun v3 => zu v1 (.faddr 0 v3) fun v4 => .gcall v1 false (zF 392) [v4] fun v5 => zi v1 (B true) v5 fun v6 => (a450x1 v0 v6)
theorem e450 : denFn prog f450 [4] = a450 := by kernel_rfl
def a451 : List AV → AC := fun v0 => zb .andNot (nth v0 0) (U 65535) fun v1 => zb .or v1 (U 65536) fun v2 => .op (.conv .u64 (nth v0 1)) fun v3 => zb .or v2 v3 fun v4 => zr [v4]
theorem e451 : denFn prog f451 [] = a451 := by kernel_rfl
def a452x0 (v0 : List AV) (v5 v8 b2 : AV) : AC := zc 388 [(nth v0 1), v5, v8, b2] fun b3 => zn (nth v0 0) fun b4 => zf 0 b4 fun b5 => zc 353 [b5, (I 0)] fun b6 => zr []
def a452x1 (v0 : List AV) (v5 v6 : AV) : AC := zf 8 v6 fun v7 => zl v7 fun v8 => zn (nth v0 0) fun v9 => zf 8 v9 fun b0 => zl b0 fun b1 => zb .add b1 (U 1) fun b2 => (a452x0 v0 v5 v8 b2)
def a452 : List AV → AC := fun v0 => zn (nth v0 0) fun v1 => zf 0 v1 fun v2 => zf 0 v2 fun v3 => zf 1 v3 fun v4 => zl v4 fun v5 => zn (nth v0 0) fun v6 => (a452x1 v0 v5 v6)
theorem e452 : denFn prog f452 [] = a452 := by kernel_rfl
def a453x0 (bc : AV) : AC := zs bc Nf fun bd => zr []
def a453x1 (v0 : List AV) (b5 b6 : AV) : AC := .op (.extract 1 b5) fun b7 => zn (nth v0 0) fun b8 => zf 10 b8 fun b9 => zs b9 b6 fun ba => zn (nth v0 0) fun bb => zf 8 bb fun bc => (a453x0 bc)
def a453x2 (v0 : List AV) (v2 v3 b2 : AV) : AC := .chk (.load 1 false v2) v3 (zc 464 [b2] fun b3 => .chk (.load 1 false v2) v3 (.op (.build [(I 0), (I 0), (B false)] [(0, 1, v3), (1, 1, b3)]) fun b4 => zc 463 [b4] fun b5 => .op (.extract 0 b5) fun b6 => (a453x1 v0 b5 b6)))
def a453x3 (v0 : List AV) (v2 v3 v6 : AV) : AC := zl v6 fun v7 => zn (nth v0 0) fun v8 => zf 9 v8 fun v9 => zl v9 fun b0 => zb .add v7 b0 fun b1 => zc 237 [(nth v0 1), b1] fun b2 => (a453x2 v0 v2 v3 b2)
def a453 : List AV → AC := fun v0 => zn (nth v0 0) fun v1 => zf 9 v1 fun v2 => zl v2 fun v3 => zn (nth v0 0) fun v4 => zf 1 v4 fun v5 => zf 3 v5 fun v6 => (a453x3 v0 v2 v3 v6)
theorem e453 : denFn prog f453 [] = a453 := by kernel_rfl
def a455x0 (v5 v9 b3 b7 b8 : AV) : AC := zn b8 fun b9 => zf 21 b9 fun ba => zl ba fun bb => zc 456 [v5, v9, b3, b7, bb] fun bc => zr [bc]
def a455x1 (v0 : List AV) (v5 v9 b2 : AV) : AC := zl b2 fun b3 => zl (nth v0 0) fun b4 => zn b4 fun b5 => zf 20 b5 fun b6 => zl b6 fun b7 => zl (nth v0 0) fun b8 => (a455x0 v5 v9 b3 b7 b8)
def a455x2 (v0 : List AV) (v5 v6 : AV) : AC := zn v6 fun v7 => zf 23 v7 fun v8 => zl v8 fun v9 => zl (nth v0 0) fun b0 => zn b0 fun b1 => zf 19 b1 fun b2 => (a455x1 v0 v5 v9 b2)
def a455 : List AV → AC := fun v0 => zl (nth v0 0) fun v1 => zn v1 fun v2 => zf 0 v2 fun v3 => zf 0 v3 fun v4 => .op (.load 13 true v4) fun v5 => zl (nth v0 0) fun v6 => (a455x2 v0 v5 v6)
theorem e455 : denFn prog f455 [] = a455 := by kernel_rfl
def a456x0 (v5 b0 : AV) : AC := zf 6 b0 fun b1 => zs b1 (I 4) fun b2 => zr [v5]
def a456x1 (v5 ba bc : AV) : AC := .op (.store 4 bc ba) fun bd => zr [v5]
def a456x2 (v0 : List AV) (v1 v5 b2 b4 b6 : AV) : AC := .op (.conv .u64 (nth v0 4)) fun b7 => .call (.fn (.func 467) [] [v1, b2]) [(I 2), b7] fun b8 => .call (.fn (.func 467) [] [v1, b2]) [(I 3), (U 2)] fun b9 => .op (.build [Nf, Nf, Nf, Nf] [(0, 1, b4), (1, 1, b6), (2, 1, b8), (3, 1, b9)]) fun ba => zn v5 fun bb => zf 2 bb fun bc => (a456x1 v5 ba bc)
def a456x3 (v0 : List AV) (v1 v5 b0 : AV) : AC := zc 466 [b0, (nth v0 1)] fun b1 => .op (.alloc [(I 0)]) fun b2 => zs b2 b1 fun b3 => .call (.fn (.func 467) [] [v1, b2]) [(I 0), (nth v0 2)] fun b4 => .op (.conv .u64 (nth v0 3)) fun b5 => .call (.fn (.func 467) [] [v1, b2]) [(I 1), b5] fun b6 => (a456x2 v0 v1 v5 b2 b4 b6)
def a456x4 (v0 : List AV) (v1 v5 v6 : AV) : AC := zf 7 v6 fun v7 => zl v7 fun v8 => zb .neq v8 (I 0) fun v9 => .ite v9 (zn v5 fun b0 => (a456x0 v5 b0)) (.op (.load 13 true v1) fun b0 => (a456x3 v0 v1 v5 b0))
def a456 : List AV → AC := fun v0 => .op (.box (nth v0 0)) fun v1 => .op (.load 13 true v1) fun v2 => zc 465 [v2, (nth v0 1), (nth v0 3), (nth v0 4)] fun v3 => .op (.build [(B false), (U 0), Nf, Nf, Nf, Nf, (I 0), (I 0)] [(0, 1, (B true)), (1, 1, (nth v0 1)), (7, 1, v3)]) fun v4 => .op (.box v4) fun v5 => zn v5 fun v6 => (a456x4 v0 v1 v5 v6)
theorem e456 : denFn prog f456 [10] = a456 := by kernel_rfl
def a457x0 (v0 : List AV) (v7 b2 : AV) : AC := zi v7 (B true) b2 fun b3 => .ite b3 (zr [(U 0)]) (zn (nth v0 0) fun b4 => zf 1 b4 fun b5 => zl b5 fun b6 => zr [b6])
def a457x1 (v0 : List AV) (v1 v6 : AV) : AC := zi v1 (B true) v6 fun v7 => zu v7 (.mv (nth v0 0)) fun v8 => zu v7 (.nilchk v8) fun v9 => zu v7 (.faddr 6 v9) fun b0 => zu v7 (.load 1 false b0) fun b1 => zu v7 (.bin .eql b1 (I 0)) fun b2 => (a457x0 v0 v7 b2)
def a457 : List AV → AC := fun v0 => .op (.eq 617 false (nth v0 0) Np) fun v1 => zu v1 (.mv (nth v0 0)) fun v2 => zu v1 (.nilchk v2) fun v3 => zu v1 (.faddr 7 v3) fun v4 => zu v1 (.load 1 false v4) fun v5 => zu v1 (.bin .neq v5 (I 0)) fun v6 => (a457x1 v0 v1 v6)
theorem e457 : denFn prog f457 [2] = a457 := by kernel_rfl
def a458x0 (v0 : List AV) (v5 v9 b2 : AV) : AC := zl b2 fun b3 => zl (nth v0 0) fun b4 => zn b4 fun b5 => zf 21 b5 fun b6 => zl b6 fun b7 => zc 459 [v5, v9, b3, b7] fun b8 => zr [b8]
def a458x1 (v0 : List AV) (v5 v6 : AV) : AC := zn v6 fun v7 => zf 23 v7 fun v8 => zl v8 fun v9 => zl (nth v0 0) fun b0 => zn b0 fun b1 => zf 19 b1 fun b2 => (a458x0 v0 v5 v9 b2)
def a458 : List AV → AC := fun v0 => zl (nth v0 0) fun v1 => zn v1 fun v2 => zf 0 v2 fun v3 => zf 0 v3 fun v4 => .op (.load 13 true v4) fun v5 => zl (nth v0 0) fun v6 => (a458x1 v0 v5 v6)
theorem e458 : denFn prog f458 [] = a458 := by kernel_rfl
def a459x0 (v6 : AV) : AC := zc 471 [v6, (I 1)] fun bb => zn v6 fun bc => zf 19 bc fun bd => zs bd bb fun be => zm []
def a459x1 (v6 b2 b4 : AV) : AC := .op (.store 3 b4 b2) fun b5 => zf 0 b4 fun b6 => zl b6 fun b7 => zn v6 fun b8 => zf 17 b8 fun b9 => zs b9 b7 fun ba => (a459x0 v6)
def a459x2 (v0 : List AV) (v6 b0 : AV) : AC := .ite b0 (zc 470 [(nth v0 1)] fun b1 => .op (.extract 0 b1) fun b2 => .op (.extract 1 b1) fun b3 => .op (.alloc [(I 0), (I 0), (B false)]) fun b4 => (a459x1 v6 b2 b4)) (zm [])
def a459x3 (v0 : List AV) (v5 : AV) : AC := .op (.box v5) fun v6 => zn v6 fun v7 => zf 25 v7 fun v8 => zl v8 fun v9 => zb .eql v9 (I 0) fun b0 => .bind (a459x2 v0 v6 b0) none (fun b1 => zr [v6]) (fun b1 => [Np])
def a459 : List AV → AC := fun v0 => .op (.box (nth v0 0)) fun v1 => .op (.load 13 true v1) fun v2 => .op (.load 13 true v1) fun v3 => zc 469 [v3, (nth v0 1), (nth v0 3)] fun v4 => .chk (.load 13 true v1) v2 (.op (.build [(I 0), (I 0), (I 0), (I 0), (I 0), (I 0), (I 0), (I 0), (I 0), (I 0), (I 0), (I 0), (I 0), (B false), (B false), (U 0), (U 0), (I 0), (I 0), (I 0), (I 0), (U 0), Np, Np, (U 0), (I 0)] [(0, 13, v2), (13, 1, (B true)), (15, 1, (nth v0 1)), (16, 1, (nth v0 2)), (18, 1, (nth v0 3)), (25, 1, v4)]) fun v5 => (a459x3 v0 v5))
theorem e459 : denFn prog f459 [] = a459 := by kernel_rfl
def a460 : List AV → AC := fun v0 => .op (.eq 625 false (nth v0 0) Np) fun v1 => .ite v1 (zr [(U 0)]) (zn (nth v0 0) fun v2 => zf 24 v2 fun v3 => zl v3 fun v4 => zr [v4])
theorem e460 : denFn prog f460 [2] = a460 := by kernel_rfl
def a463x0 (v1 b3 : AV) : AC := zt b3 (.faddr 1 v1) fun b4 => zt b3 (.load 1 false b4) fun b5 => zt b3 (.bin .neq b5 (I 0)) fun b6 => zi b3 b6 (B false) fun b7 => .ite b7 (zr [(I 5), (U 0)]) (zm [(I 0), (U 0)])
def a463x1 (v1 v9 : AV) : AC := .op (.un .not v9) fun b0 => .ite b0 (zr [(I 3), (U 0)]) (zf 0 v1 fun b1 => zl b1 fun b2 => zb .eql b2 (I (-1)) fun b3 => (a463x0 v1 b3))
def a463x2 (v1 v3 : AV) : AC := .op (.build [(I 0), (I 0), (I 0)] [(0, 1, v3), (1, 1, (I (-1))), (2, 1, (I 65534))]) fun v4 => zf 1 v1 fun v5 => zl v5 fun v6 => .op (.build [(I 0), (I 0), (I 0)] [(0, 1, v6), (1, 1, (I 0)), (2, 1, (I 4294967295))]) fun v7 => .op (.bslice 3 2 [(I 0), (I 0), (I 0)] [(0, 3, v4), (3, 3, v7)]) fun v8 => zc 277 [v8] fun v9 => (a463x1 v1 v9)
def a463x3 (b4 b5 : AV) : AC := zc 476 [b5, b4] fun b6 => zr [b6, (I 0)]
def a463x4 (v1 v6 v9 b0 : AV) : AC := zl b0 fun b1 => .op (.bslice 1 2 [(I 0)] [(0, 1, v9), (1, 1, b1)]) fun b2 => zf 2 v1 fun b3 => zl b3 fun b4 => zc 279 [v6, b2] fun b5 => .chk (.load 1 false b3) b4 (a463x3 b4 b5)
def a463x5 (v1 v3 v4 : AV) : AC := .op (.store 4 v4 v3) fun v5 => .op (.aslice 2 2 v4 none none none) fun v6 => zf 0 v1 fun v7 => zl v7 fun v8 => zb .add v8 (I 1) fun v9 => zf 1 v1 fun b0 => (a463x4 v1 v6 v9 b0)
def a463 : List AV → AC := fun v0 => .op (.box (nth v0 0)) fun v1 => .bind (zf 0 v1 fun v2 => zl v2 fun v3 => (a463x2 v1 v3)) (some 0) (fun v2 => zc 475 [] fun v3 => .op (.alloc [(I 0), (I 0), (I 0), (I 0)]) fun v4 => (a463x5 v1 v3 v4)) (fun v2 => [(nth v2 1), (nth v2 0)])
theorem e463 : denFn prog f463 [2, 3] = a463 := by kernel_rfl
def a464 : List AV → AC := fun v0 => zb .and (nth v0 0) (U 4294967295) fun v1 => .op (.conv .i64 v1) fun v2 => zr [v2]
theorem e464 : denFn prog f464 [] = a464 := by kernel_rfl
def a465x0 (bo bp br : AV) : AC := zu bo (.bin .gtr bp br) fun bs => zi bo (B true) bs fun bt => .ite bt (zr [(I 3)]) (zm [(I 0)])
def a465x1 (v0 : List AV) (v1 bl : AV) : AC := zu bl (.mv (nth v0 3)) fun bm => zu bl (.bin .lss bm (I 1)) fun bn => zi bl (B true) bn fun bo => zu bo (.mv (nth v0 3)) fun bp => zu bo (.faddr 2 v1) fun bq => zu bo (.load 1 false bq) fun br => (a465x0 bo bp br)
def a465x2 (v0 : List AV) (v1 bf : AV) : AC := zu bf (.mv (nth v0 2)) fun bg => zu bf (.bin .lss bg (I 0)) fun bh => zi bf (B true) bh fun bi => zu bi (.mv (nth v0 2)) fun bj => zu bi (.bin .gtr bj (I 65534)) fun bk => zi bi (B true) bk fun bl => (a465x1 v0 v1 bl)
def a465x3 (v0 : List AV) (v1 b6 b8 b9 : AV) : AC := zu b6 (.faddr 0 b9) fun ba => zu b6 (.faddr 0 ba) fun bb => zu b6 (.faddr 2 bb) fun bc => zu b6 (.load 1 false bc) fun bd => zu b6 (.bin .geq b8 bd) fun be => zi b6 (B true) be fun bf => (a465x2 v0 v1 bf)
def a465x4 (v0 : List AV) (v1 v8 b3 : AV) : AC := zu b3 (.faddr 2 v8) fun b4 => zu b3 (.load 1 false b4) fun b5 => zi b3 (B true) b5 fun b6 => zu b6 (.faddr 0 v8) fun b7 => zu b6 (.load 1 false b7) fun b8 => zu b6 (.faddr 3 v1) fun b9 => (a465x3 v0 v1 b6 b8 b9)
def a465x5 (v0 : List AV) (v1 v7 v8 : AV) : AC := zb .neq v7 (I 0) fun b0 => .ite b0 (zr [(I 5)]) (zf 0 v8 fun b1 => zl b1 fun b2 => zb .lss b2 (I 0) fun b3 => (a465x4 v0 v1 v8 b3))
def a465x6 (v0 : List AV) (v1 : AV) : AC := zc 470 [(nth v0 1)] fun v5 => .op (.extract 0 v5) fun v6 => .op (.extract 1 v5) fun v7 => .op (.alloc [(I 0), (I 0), (B false)]) fun v8 => .op (.store 3 v8 v6) fun v9 => .bind (a465x5 v0 v1 v7 v8) (some 0) (fun b0 => zr [(I 0)]) (fun b0 => [(nth b0 0)])
def a465 : List AV → AC := fun v0 => .op (.box (nth v0 0)) fun v1 => .op (.load 13 true v1) fun v2 => zc 122 [v2] fun v3 => .op (.un .not v3) fun v4 => .ite v4 (zr [(I 2)]) (a465x6 v0 v1)
theorem e465 : denFn prog f465 [8] = a465 := by kernel_rfl
def a466x0 (v5 v8 b2 : AV) : AC := zl b2 fun b3 => zb .geq v8 b3 fun b4 => .ite b4 (zr [(I (-1))]) (zf 0 v5 fun b5 => zl b5 fun b6 => zr [b6])
def a466x1 (v1 v5 : AV) : AC := zf 0 v5 fun v7 => zl v7 fun v8 => zf 3 v1 fun v9 => zf 0 v9 fun b0 => zf 0 b0 fun b1 => zf 2 b1 fun b2 => (a466x0 v5 v8 b2)
def a466 : List AV → AC := fun v0 => .op (.box (nth v0 0)) fun v1 => zc 447 [(nth v0 1)] fun v2 => .op (.extract 0 v2) fun v3 => .op (.extract 1 v2) fun v4 => .op (.alloc [(I 0), (I 0)]) fun v5 => .op (.store 2 v5 v3) fun v6 => (a466x1 v1 v5)
theorem e466 : denFn prog f466 [4] = a466 := by kernel_rfl
def a467 : List AV → AC := fun v0 => .op (.box (nth v0 0)) fun v1 => .op (.box (nth v0 1)) fun v2 => zr [(.fn (.func 468) [] [(nth v0 2), (nth v0 3), v1, v2])]
theorem e467 : denFn prog f467 [] = a467 := by kernel_rfl
def a468x0 (v0 : List AV) (v4 v5 : AV) : AC := zc 116 [(nth v0 0), v5, v4] fun v6 => zr []
def a468 : List AV → AC := fun v0 => .op (.load 13 true (nth v0 1)) fun v1 => zl (nth v0 2) fun v2 => zl (nth v0 3) fun v3 => zl (nth v0 4) fun v4 => zc 83 [v1, v2, v3] fun v5 => .chk (.load 1 false (nth v0 4)) v4 (a468x0 v0 v4 v5)
theorem e468 : denFn prog f468 [] = a468 := by kernel_rfl
def a469x0 (bi bj bl : AV) : AC := zu bi (.bin .gtr bj bl) fun bm => zi bi (B true) bm fun bn => .ite bn (zr [(I 3)]) (zm [(I 0)])
def a469x1 (v0 : List AV) (v1 bf : AV) : AC := zu bf (.mv (nth v0 2)) fun bg => zu bf (.bin .lss bg (I 1)) fun bh => zi bf (B true) bh fun bi => zu bi (.mv (nth v0 2)) fun bj => zu bi (.faddr 2 v1) fun bk => zu bi (.load 1 false bk) fun bl => (a469x0 bi bj bl)
def a469x2 (v0 : List AV) (v1 b6 b8 b9 : AV) : AC := zu b6 (.faddr 0 b9) fun ba => zu b6 (.faddr 0 ba) fun bb => zu b6 (.faddr 2 bb) fun bc => zu b6 (.load 1 false bc) fun bd => zu b6 (.bin .geq b8 bd) fun be => zi b6 (B true) be fun bf => (a469x1 v0 v1 bf)
def a469x3 (v0 : List AV) (v1 v8 b3 : AV) : AC := zu b3 (.faddr 2 v8) fun b4 => zu b3 (.load 1 false b4) fun b5 => zi b3 (B true) b5 fun b6 => zu b6 (.faddr 0 v8) fun b7 => zu b6 (.load 1 false b7) fun b8 => zu b6 (.faddr 3 v1) fun b9 => (a469x2 v0 v1 b6 b8 b9)
def a469x4 (v0 : List AV) (v1 v7 v8 : AV) : AC := zb .neq v7 (I 0) fun b0 => .ite b0 (zr [(I 5)]) (zf 0 v8 fun b1 => zl b1 fun b2 => zb .lss b2 (I 0) fun b3 => (a469x3 v0 v1 v8 b3))
def a469x5 (v0 : List AV) (v1 : AV) : AC := zc 470 [(nth v0 1)] fun v5 => .op (.extract 0 v5) fun v6 => .op (.extract 1 v5) fun v7 => .op (.alloc [(I 0), (I 0), (B false)]) fun v8 => .op (.store 3 v8 v6) fun v9 => .bind (a469x4 v0 v1 v7 v8) (some 0) (fun b0 => zr [(I 0)]) (fun b0 => [(nth b0 0)])
def a469 : List AV → AC := fun v0 => .op (.box (nth v0 0)) fun v1 => .op (.load 13 true v1) fun v2 => zc 83 [v2, (I 0), (I 0)] fun v3 => zb .lss v3 (I 0) fun v4 => .ite v4 (zr [(I 2)]) (a469x5 v0 v1)
theorem e469 : denFn prog f469 [6] = a469 := by kernel_rfl
def a470x0 (v1 : AV) : AC := .op (.build [(I 0), (I 0), (B false)] []) fun bf => .op (.store 3 v1 bf) fun bg => zr [v1, (I 5)]
def a470x1 (v1 v9 : AV) : AC := .op (.load 3 true v9) fun bf => .op (.store 3 v1 bf) fun bg => zr [v1, (I 0)]
def a470x2 (v0 : List AV) (v1 v9 b8 ba : AV) : AC := zu ba (.mv b8) fun bb => zu ba (.mv (nth v0 0)) fun bc => zu ba (.bin .neq bb bc) fun bd => zi ba (B true) bd fun be => .ite be (a470x0 v1) (a470x1 v1 v9)
def a470x3 (v0 : List AV) (v1 v9 b4 : AV) : AC := .op (.store 3 v9 b4) fun b5 => .op (.load 3 true v9) fun b6 => zc 463 [b6] fun b7 => .op (.extract 0 b7) fun b8 => .op (.extract 1 b7) fun b9 => zb .neq b9 (I 0) fun ba => (a470x2 v0 v1 v9 b8 ba)
def a470x4 (v0 : List AV) (v1 v6 v7 v8 v9 : AV) : AC := zc 363 [(nth v0 0), v6] fun b0 => .chk (.load 2 true v7) v8 (zb .sub b0 (I 1) fun b1 => zc 363 [(nth v0 0), v8] fun b2 => zc 477 [(nth v0 0)] fun b3 => .op (.build [(I 0), (I 0), (B false)] [(0, 1, b1), (1, 1, b2), (2, 1, b3)]) fun b4 => (a470x3 v0 v1 v9 b4))
def a470x5 (v0 : List AV) (v1 v2 v3 : AV) : AC := .op (.store 4 v3 v2) fun v4 => .op (.paddr 2 2 v3 (I 0)) fun v5 => .op (.load 2 true v5) fun v6 => .op (.paddr 2 2 v3 (I 1)) fun v7 => .op (.load 2 true v7) fun v8 => .op (.alloc [(I 0), (I 0), (B false)]) fun v9 => (a470x4 v0 v1 v6 v7 v8 v9)
def a470 : List AV → AC := fun v0 => .fin (.op (.alloc [(I 0), (I 0), (B false)]) fun v1 => zc 475 [] fun v2 => .op (.alloc [(I 0), (I 0), (I 0), (I 0)]) fun v3 => (a470x5 v0 v1 v2 v3)) fun v1 => .op (.load 3 true (nth v1 0)) fun v2 => zr [v2, (nth v1 1)]
theorem e470 : denFn prog f470 [3] = a470 := by kernel_rfl
def a471x0 (v0 : List AV) (v3 v6 : AV) : AC := zc 478 [v3, v6] fun v7 => zn (nth v0 0) fun v8 => zf 22 v8 fun v9 => zs v9 v7 fun b0 => zr [(nth v0 1)]
def a471 : List AV → AC := fun v0 => zn (nth v0 0) fun v1 => zf 0 v1 fun v2 => .op (.load 13 true v2) fun v3 => zn (nth v0 0) fun v4 => zf 16 v4 fun v5 => zl v5 fun v6 => (a471x0 v0 v3 v6)
theorem e471 : denFn prog f471 [] = a471 := by kernel_rfl
def a475x0 (v1 v2 v3 : AV) : AC := .op (.build [(I 0), (I 0), (I 0), (I 0)] [(0, 2, v2), (2, 2, v3)]) fun v4 => .op (.store 4 v1 v4) fun v5 => zr [v1]
def a475 : List AV → AC := fun v0 => .fin (.op (.alloc [(I 0), (I 0), (I 0), (I 0)]) fun v1 => .op (.build [(I 0), (I 0)] [(0, 1, (I 0)), (1, 1, (I 16))]) fun v2 => .op (.build [(I 0), (I 0)] [(0, 1, (I 16)), (1, 1, (I 32))]) fun v3 => (a475x0 v1 v2 v3)) fun v1 => .op (.load 4 true (nth v1 0)) fun v2 => zr [v2]
theorem e475 : denFn prog f475 [] = a475 := by kernel_rfl
def a476 : List AV → AC := fun v0 => .ite (nth v0 1) (zb .or (nth v0 0) (U 9223372036854775808) fun v1 => zr [v1]) (zb .andNot (nth v0 0) (U 9223372036854775808) fun v1 => zr [v1])
theorem e476 : denFn prog f476 [4] = a476 := by kernel_rfl
def a477 : List AV → AC := fun v0 => zb .shr (nth v0 0) (U 63) fun v1 => zb .eql v1 (U 1) fun v2 => zr [v2]
theorem e477 : denFn prog f477 [] = a477 := by kernel_rfl
def a478x0 (v4 : AV) : AC := zn v4 fun b1 => zf 23 b1 fun b2 => zs b2 (I 2) fun b3 => zr [v4]
def a478x1 (v4 b0 : AV) : AC := zn v4 fun b1 => zf 20 b1 fun b2 => zs b2 b0 fun b3 => zc 486 [v4] fun b4 => zr [v4]
def a478x2 (v1 v4 v6 : AV) : AC := zb .lss v6 (I 0) fun v7 => .ite v7 (zn v4 fun v8 => zf 14 v8 fun v9 => zs v9 (I 9) fun b0 => (a478x0 v4)) (zf 2 v1 fun v8 => zl v8 fun v9 => .op (.mkslice 4 32 [(I 0), (I 0), (U 0), (U 0)] v9 v9) fun b0 => (a478x1 v4 b0))
def a478 : List AV → AC := fun v0 => .op (.box (nth v0 0)) fun v1 => .op (.load 13 true v1) fun v2 => .op (.build [(I 0), (I 0), (I 0), (I 0), (I 0), (I 0), (I 0), (I 0), (I 0), (I 0), (I 0), (I 0), (I 0), (U 0), (I 0), (I 0), (I 0), (U 0), (U 0), (U 0), Ns, (U 0), (B false), (I 0)] [(0, 13, v2), (13, 1, (nth v0 1)), (22, 1, (B true))]) fun v3 => .op (.box v3) fun v4 => .op (.load 13 true v1) fun v5 => zc 445 [v5, (I (-1)), (I 0)] fun v6 => (a478x2 v1 v4 v6)
theorem e478 : denFn prog f478 [4] = a478 := by kernel_rfl
def a486 : List AV → AC := fun v0 => zn (nth v0 0) fun v1 => zf 0 v1 fun v2 => zf 2 v2 fun v3 => zl v3 fun v4 => zb .sub v4 (I 1) fun v5 => zc 493 [(nth v0 0), v5] fun v6 => zr []
theorem e486 : denFn prog f486 [] = a486 := by kernel_rfl
def a489x0 (v0 : List AV) (b6 : AV) : AC := zl b6 fun b7 => .call b7 [(nth v0 1)] fun b8 => zn (nth v0 0) fun b9 => zf 3 b9 fun ba => zl ba fun bb => zb .eql bb (I (-1)) fun bc => zr [bc]
def a489x1 (v0 : List AV) : AC := zn (nth v0 0) fun b1 => zf 3 b1 fun b2 => zl b2 fun b3 => zn (nth v0 0) fun b4 => zf 0 b4 fun b5 => .op (.paddr 3 1 b5 b3) fun b6 => (a489x0 v0 b6)
def a489x2 (v0 : List AV) (v4 v6 : AV) : AC := zu v4 (.faddr 3 v6) fun v7 => zu v4 (.load 1 false v7) fun v8 => zu v4 (.bin .eql v8 (I (-1))) fun v9 => zi v4 (B true) v9 fun b0 => .ite b0 (zr [(B true)]) (a489x1 v0)
def a489 : List AV → AC := fun v0 => zn (nth v0 0) fun v1 => zf 4 v1 fun v2 => zl v2 fun v3 => .op (.un .not v3) fun v4 => zu v4 (.mv (nth v0 0)) fun v5 => zu v4 (.nilchk v5) fun v6 => (a489x2 v0 v4 v6)
theorem e489 : denFn prog f489 [4] = a489 := by kernel_rfl
def a493x0 (be : AV) : AC := zf 14 be fun bf => zs bf (I 1) fun bg => zr []
def a493x1 (v1 b4 b8 b9 : AV) : AC := .op (.load 4 true b4) fun ba => zn b8 fun bb => zf 15 bb fun bc => .op (.store 4 bc ba) fun bd => .chk (.load 1 false v1) b9 (zn b9 fun be => (a493x0 be))
def a493x2 (v1 v2 : AV) (b3 : List AV) (b4 : AV) : AC := zl v2 fun b6 => zb .eql (nth b3 1) b6 fun b7 => .ite b7 (zl v1 fun b8 => zl v1 fun b9 => (a493x1 v1 b4 b8 b9)) (zm [])
def a493x3 (v1 v2 : AV) (b3 : List AV) : AC := .op (.alloc [(I 0), (I 0), (U 0), (U 0)]) fun b4 => .op (.store 4 b4 (nth b3 2)) fun b5 => .start (nth b3 0) (.bind (a493x2 v1 v2 b3 b4) (some 1) (fun b6 => zm []) (fun b6 => []))
def a493x4 (b6 : AV) : AC := zs b6 (I 9) fun b7 => zr []
def a493x5 (v1 v2 b2 : AV) : AC := .bind (.rng 2 b2 (fun b3 => (a493x3 v1 v2 b3)) (zm []) []) (some 0) (fun b3 => zl v1 fun b4 => zn b4 fun b5 => zf 14 b5 fun b6 => (a493x4 b6)) (fun b3 => [])
def a493x6 (v1 v2 v6 : AV) : AC := zl v6 fun v7 => zl v1 fun v8 => zn v8 fun v9 => zf 20 v9 fun b0 => zl b0 fun b1 => zc 496 [v7, b1] fun b2 => (a493x5 v1 v2 b2)
def a493 : List AV → AC := fun v0 => .op (.box (nth v0 0)) fun v1 => .op (.box (nth v0 1)) fun v2 => zl v1 fun v3 => zn v3 fun v4 => zf 0 v4 fun v5 => zf 2 v5 fun v6 => (a493x6 v1 v2 v6)
theorem e493 : denFn prog f493 [] = a493 := by kernel_rfl
def a496 : List AV → AC := fun v0 => .op (.box (nth v0 0)) fun v1 => .op (.box (nth v0 1)) fun v2 => zr [(.fn (.func 499) [] [v1, v2])]
theorem e496 : denFn prog f496 [] = a496 := by kernel_rfl
def a499x0 (v0 : List AV) (v2 : AV) (v6 : List AV) : AC := zl (nth v0 2) fun b5 => .op (.saddr 4 b5 (nth v6 0)) fun b6 => .op (.load 4 true b6) fun b7 => .op (.store 4 v2 b7) fun b8 => zm []
def a499x1 (v0 : List AV) (v2 : AV) (v6 : List AV) (b0 : AV) : AC := zs b0 (U 0) fun b1 => .op (.load 4 true v2) fun b2 => .call (nth v0 0) [(nth v6 0), b2] fun b3 => .op (.un .not b3) fun b4 => .ite b4 (zr []) (a499x0 v0 v2 v6)
def a499x2 (v0 : List AV) (v2 : AV) (v6 : List AV) : AC := .bind (zf 0 v2 fun v8 => zs v8 (nth v6 0) fun v9 => zf 3 v2 fun b0 => (a499x1 v0 v2 v6 b0)) (some 1) (fun v8 => zb .sub (nth v6 0) (I 1) fun v9 => zm [v9]) (fun v8 => [(nth v6 0)])
def a499x3 (v0 : List AV) (v2 v5 : AV) : AC := .loop [v5] (fun v6 => zb .geq (nth v6 0) (I 0) fun v7 => .ite v7 (a499x2 v0 v2 v6) (.ret (.exit 0) [(nth v6 0)])) (fun v6 => [(nth v6 0)])
def a499 : List AV → AC := fun v0 => .op (.build [(I 0), (I 0), (U 0), (U 0)] [(1, 1, (I (-1)))]) fun v1 => .op (.alloc [(I 0), (I 0), (U 0), (U 0)]) fun v2 => .op (.store 4 v2 v1) fun v3 => zl (nth v0 1) fun v4 => zb .sub v4 (I 1) fun v5 => .bind (a499x3 v0 v2 v5) (some 0) (fun v6 => zr []) (fun v6 => [])
theorem e499 : denFn prog f499 [5] = a499 := by kernel_rfl
def a522 : List AV → AC := fun v0 => zb .add (I 4) (nth v0 0) fun v1 => zr [v1]
theorem e522 : denFn prog f522 [] = a522 := by kernel_rfl
def a523 : List AV → AC := fun v0 => zr [(nth v0 0)]
theorem e523 : denFn prog f523 [] = a523 := by kernel_rfl
def a524x0 (v0 : List AV) (b0 : AV) : AC := .call b0 [(nth v0 1)] fun b1 => zn (nth v0 0) fun b2 => zf 5 b2 fun b3 => zl b3 fun b4 => .op (.eq 335 false b4 Nf) fun b5 => zr [b5]
def a524x1 (v0 : List AV) (v1 v6 : AV) : AC := zi v1 (B true) v6 fun v7 => .ite v7 (zr [(B true)]) (zn (nth v0 0) fun v8 => zf 5 v8 fun v9 => zl v9 fun b0 => (a524x0 v0 b0))
def a524 : List AV → AC := fun v0 => .op (.eq 316 false (nth v0 0) Np) fun v1 => zu v1 (.mv (nth v0 0)) fun v2 => zu v1 (.nilchk v2) fun v3 => zu v1 (.faddr 5 v3) fun v4 => zu v1 (.load 1 false v4) fun v5 => zu v1 (.eq 335 false v5 Nf) fun v6 => (a524x1 v0 v1 v6)
theorem e524 : denFn prog f524 [4] = a524 := by kernel_rfl
def a525x0 (v1 v6 : AV) : AC := zi v1 (B true) v6 fun v7 => zr [v7]
def a525 : List AV → AC := fun v0 => .op (.eq 322 false (nth v0 0) Np) fun v1 => zu v1 (.mv (nth v0 0)) fun v2 => zu v1 (.nilchk v2) fun v3 => zu v1 (.faddr 0 v3) fun v4 => zu v1 (.mv (nth v0 1)) fun v5 => .gcall v1 false (zF 526) [v4, v5] fun v6 => (a525x0 v1 v6)
theorem e525 : denFn prog f525 [] = a525 := by kernel_rfl
def a526x0 (b0 : AV) : AC := zf 7 b0 fun b1 => zl b1 fun b2 => .op (.eq 335 false b2 Nf) fun b3 => zr [b3]
def a526x1 (v1 v2 v6 : AV) : AC := .op (.eq 335 false v6 Nf) fun v7 => .ite v7 (zr [(B true)]) (.call (.fn (.func 527) [] [v1, v2]) [] fun v8 => zl v1 fun v9 => zn v9 fun b0 => (a526x0 b0))
def a526 : List AV → AC := fun v0 => .op (.box (nth v0 0)) fun v1 => .op (.box (nth v0 1)) fun v2 => zl v1 fun v3 => zn v3 fun v4 => zf 7 v4 fun v5 => zl v5 fun v6 => (a526x1 v1 v2 v6)
theorem e526 : denFn prog f526 [4] = a526 := by kernel_rfl
def a527x0 (v0 : List AV) (v3 : AV) : AC := zl v3 fun v4 => zl (nth v0 1) fun v5 => .call v4 [v5] fun v6 => zr []
def a527 : List AV → AC := fun v0 => .fin (zl (nth v0 0) fun v1 => zn v1 fun v2 => zf 7 v2 fun v3 => (a527x0 v0 v3)) fun v1 => .call (.fn (.func 528) [] [(nth v0 0)]) [] fun v2 => zr []
theorem e527 : denFn prog f527 [] = a527 := by kernel_rfl
def a528x0 (v5 v6 : AV) : AC := zf 7 v6 fun v7 => zs v7 v5 fun v8 => zr []
def a528 : List AV → AC := fun v0 => zl (nth v0 0) fun v1 => zl (nth v0 0) fun v2 => zn v2 fun v3 => zf 8 v3 fun v4 => zl v4 fun v5 => zn v1 fun v6 => (a528x0 v5 v6)
theorem e528 : denFn prog f528 [] = a528 := by kernel_rfl
def a529x0 (v0 : List AV) (b5 b7 : AV) : AC := zs b7 b5 fun b8 => zn (nth v0 0) fun b9 => zf 1 b9 fun ba => zs ba Np fun bb => zm []
def a529x1 (v0 : List AV) : AC := zn (nth v0 0) fun b2 => zf 1 b2 fun b3 => zl b3 fun b4 => zc 531 [b4] fun b5 => zn (nth v0 0) fun b6 => zf 2 b6 fun b7 => (a529x0 v0 b5 b7)
def a529x2 (v0 : List AV) (b0 : AV) : AC := zc 530 [b0, (nth v0 1)] fun b1 => .bind (.ite b1 (a529x1 v0) (zm [])) none (fun b2 => zr [b1]) (fun b2 => [(B false)])
def a529x3 (v0 : List AV) (v1 v6 : AV) : AC := zi v1 (B true) v6 fun v7 => .ite v7 (zr [(B true)]) (zn (nth v0 0) fun v8 => zf 1 v8 fun v9 => zl v9 fun b0 => (a529x2 v0 b0))
def a529 : List AV → AC := fun v0 => .op (.eq 339 false (nth v0 0) Np) fun v1 => zu v1 (.mv (nth v0 0)) fun v2 => zu v1 (.nilchk v2) fun v3 => zu v1 (.faddr 1 v3) fun v4 => zu v1 (.load 1 false v4) fun v5 => zu v1 (.eq 409 false v5 Np) fun v6 => (a529x3 v0 v1 v6)
theorem e529 : denFn prog f529 [4] = a529 := by kernel_rfl
def a530x0 (v1 v6 : AV) : AC := zi v1 (B true) v6 fun v7 => zr [v7]
def a530 : List AV → AC := fun v0 => .op (.eq 409 false (nth v0 0) Np) fun v1 => zu v1 (.mv (nth v0 0)) fun v2 => zu v1 (.nilchk v2) fun v3 => zu v1 (.faddr 0 v3) fun v4 => zu v1 (.mv (nth v0 1)) fun v5 => .gcall v1 false (zF 532) [v4, v5] fun v6 => (a530x0 v1 v6)
theorem e530 : denFn prog f530 [] = a530 := by kernel_rfl
def a531 : List AV → AC := fun v0 => .op (.eq 409 false (nth v0 0) Np) fun v1 => .ite v1 (zr [(I 1)]) (zn (nth v0 0) fun v2 => zf 0 v2 fun v3 => zc 360 [v3] fun v4 => zr [v4])
theorem e531 : denFn prog f531 [2] = a531 := by kernel_rfl
def a532x0 (v0 : List AV) (v4 : AV) : AC := .ite v4 (zn (nth v0 0) fun v5 => zf 4 v5 fun v6 => zl v6 fun v7 => .call v7 [(nth v0 1)] fun v8 => zm []) (zm [])
def a532x1 (v0 : List AV) : AC := zn (nth v0 0) fun v6 => zf 4 v6 fun v7 => zl v7 fun v8 => .op (.eq 335 false v8 Nf) fun v9 => zr [v9]
def a532 : List AV → AC := fun v0 => zn (nth v0 0) fun v1 => zf 4 v1 fun v2 => zl v2 fun v3 => .op (.eq 335 true v3 Nf) fun v4 => .bind (a532x0 v0 v4) none (fun v5 => (a532x1 v0)) (fun v5 => [(B false)])
theorem e532 : denFn prog f532 [] = a532 := by kernel_rfl
def a534x0 (v1 v6 : AV) : AC := zi v1 (B true) v6 fun v7 => zr [v7]
def a534 : List AV → AC := fun v0 => .op (.eq 351 false (nth v0 0) Np) fun v1 => zu v1 (.mv (nth v0 0)) fun v2 => zu v1 (.nilchk v2) fun v3 => zu v1 (.faddr 0 v3) fun v4 => zu v1 (.mv (nth v0 1)) fun v5 => .gcall v1 false (zF 532) [v4, v5] fun v6 => (a534x0 v1 v6)
theorem e534 : denFn prog f534 [] = a534 := by kernel_rfl
def a536x0 (v1 v6 : AV) : AC := zi v1 (B true) v6 fun v7 => zr [v7]
def a536 : List AV → AC := fun v0 => .op (.eq 405 false (nth v0 0) Np) fun v1 => zu v1 (.mv (nth v0 0)) fun v2 => zu v1 (.nilchk v2) fun v3 => zu v1 (.faddr 0 v3) fun v4 => zu v1 (.mv (nth v0 1)) fun v5 => .gcall v1 false (zF 526) [v4, v5] fun v6 => (a536x0 v1 v6)
theorem e536 : denFn prog f536 [] = a536 := by kernel_rfl
def a537x0 (v1 v6 : AV) : AC := zi v1 (B true) v6 fun v7 => zr [v7]
def a537 : List AV → AC := fun v0 => .op (.eq 414 false (nth v0 0) Np) fun v1 => zu v1 (.mv (nth v0 0)) fun v2 => zu v1 (.nilchk v2) fun v3 => zu v1 (.faddr 0 v3) fun v4 => zu v1 (.mv (nth v0 1)) fun v5 => .gcall v1 false (zF 526) [v4, v5] fun v6 => (a537x0 v1 v6)
theorem e537 : denFn prog f537 [] = a537 := by kernel_rfl
def a538x0 (v1 v6 : AV) : AC := zi v1 (B true) v6 fun v7 => zr [v7]
def a538 : List AV → AC := fun v0 => .op (.eq 418 false (nth v0 0) Np) fun v1 => zu v1 (.mv (nth v0 0)) fun v2 => zu v1 (.nilchk v2) fun v3 => zu v1 (.faddr 0 v3) fun v4 => zu v1 (.mv (nth v0 1)) fun v5 => .gcall v1 false (zF 532) [v4, v5] fun v6 => (a538x0 v1 v6)
theorem e538 : denFn prog f538 [] = a538 := by kernel_rfl
def a539x0 (v1 v6 : AV) : AC := zi v1 (B true) v6 fun v7 => zr [v7]
def a539 : List AV → AC := fun v0 => .op (.eq 423 false (nth v0 0) Np) fun v1 => zu v1 (.mv (nth v0 0)) fun v2 => zu v1 (.nilchk v2) fun v3 => zu v1 (.faddr 0 v3) fun v4 => zu v1 (.mv (nth v0 1)) fun v5 => .gcall v1 false (zF 526) [v4, v5] fun v6 => (a539x0 v1 v6)
theorem e539 : denFn prog f539 [] = a539 := by kernel_rfl
def a540x0 (v4 : AV) : AC := zl v4 fun v5 => zr [v5]
def a540 : List AV → AC := fun v0 => .op (.eq 431 false (nth v0 0) Np) fun v1 => .ite v1 (zr [(U 0)]) (zn (nth v0 0) fun v2 => zf 0 v2 fun v3 => zf 17 v3 fun v4 => (a540x0 v4))
theorem e540 : denFn prog f540 [2] = a540 := by kernel_rfl
def a541x0 (v1 v6 : AV) : AC := zi v1 (B true) v6 fun v7 => zr [v7]
def a541 : List AV → AC := fun v0 => .op (.eq 431 false (nth v0 0) Np) fun v1 => zu v1 (.mv (nth v0 0)) fun v2 => zu v1 (.nilchk v2) fun v3 => zu v1 (.faddr 0 v3) fun v4 => zu v1 (.mv (nth v0 1)) fun v5 => .gcall v1 false (zF 542) [v4, v5] fun v6 => (a541x0 v1 v6)
theorem e541 : denFn prog f541 [] = a541 := by kernel_rfl
def a542x0 (bj bk : AV) : AC := zf 16 bk fun bl => zs bl bj fun bm => zm []
def a542x1 (v0 : List AV) (b0 : AV) : AC := .op (.bslice 1 1 [Ni] [(0, 1, b0)]) fun bf => zn (nth v0 0) fun bg => zf 16 bg fun bh => zl bh fun bi => .op (.append 1 16 bf bi) fun bj => zn (nth v0 0) fun bk => (a542x0 bj bk)
def a542x2 (bh : AV) : AC := zl bh fun bi => .op (.len false bi) fun bj => zb .eql bj (I 0) fun bk => zr [bk]
def a542x3 (v0 : List AV) (b0 b9 : AV) : AC := .op (.un .not b9) fun be => .bind (.ite be (a542x1 v0 b0) (zm [])) none (fun bf => zn (nth v0 0) fun bg => zf 16 bg fun bh => (a542x2 bh)) (fun bf => [(B false)])
def a542x4 (v0 : List AV) (b0 : AV) : AC := .call (.fn (.method "coxswain/ready.run") [] []) [b0, (nth v0 1)] fun b8 => .op (.extract 0 b8) fun b9 => .op (.extract 1 b8) fun ba => zn (nth v0 0) fun bb => zf 17 bb fun bc => zs bc ba fun bd => (a542x3 v0 b0 b9)
def a542x5 (v0 : List AV) (b0 b1 : AV) : AC := zf 16 b1 fun b2 => zl b2 fun b3 => .op (.sslice 1 b3 (some (I 1)) none none) fun b4 => zn (nth v0 0) fun b5 => zf 16 b5 fun b6 => zs b6 b4 fun b7 => (a542x4 v0 b0)
def a542x6 (v0 : List AV) : AC := zn (nth v0 0) fun v6 => zf 16 v6 fun v7 => zl v7 fun v8 => .op (.saddr 1 v8 (I 0)) fun v9 => zl v9 fun b0 => zn (nth v0 0) fun b1 => (a542x5 v0 b0 b1)
def a542 : List AV → AC := fun v0 => zn (nth v0 0) fun v1 => zf 16 v1 fun v2 => zl v2 fun v3 => .op (.len false v3) fun v4 => zb .eql v4 (I 0) fun v5 => .ite v5 (zr [(B true)]) (a542x6 v0)
theorem e542 : denFn prog f542 [4] = a542 := by kernel_rfl
def a543 : List AV → AC := fun v0 => .op (.eq 442 false (nth v0 0) Np) fun v1 => .ite v1 (zr [(U 0)]) (zn (nth v0 0) fun v2 => zf 10 v2 fun v3 => zl v3 fun v4 => zr [v4])
theorem e543 : denFn prog f543 [2] = a543 := by kernel_rfl
def a544x0 (v0 : List AV) : AC := zn (nth v0 0) fun bb => zf 12 bb fun bc => zl bc fun bd => zr [bd]
def a544x1 (v0 : List AV) (c1 c3 : AV) : AC := zn (nth v0 0) fun c4 => zf 8 c4 fun c5 => zs c5 c1 fun c6 => zn (nth v0 0) fun c7 => zf 12 c7 fun c8 => zs c8 c3 fun c9 => zm []
def a544x2 (v0 : List AV) (bv bw : AV) : AC := zf 6 bw fun bx => zl bx fun bz => zc 547 [bv, bz] fun c0 => .op (.extract 0 c0) fun c1 => .op (.extract 1 c0) fun c2 => .op (.un .not c2) fun c3 => (a544x1 v0 c1 c3)
def a544x3 (v0 : List AV) (bs : AV) : AC := .ite bs (zn (nth v0 0) fun bt => zf 7 bt fun bu => zl bu fun bv => zn (nth v0 0) fun bw => (a544x2 v0 bv bw)) (zm [])
def a544x4 (v0 : List AV) : AC := zn (nth v0 0) fun bu => zf 12 bu fun bv => zl bv fun bw => zr [bw]
def a544x5 (v0 : List AV) (bp : AV) : AC := zf 1 bp fun bq => zl bq fun br => zb .eql br (I 0) fun bs => .bind (a544x3 v0 bs) none (fun bt => (a544x4 v0)) (fun bt => [(B false)])
def a544x6 (v0 : List AV) (bh bj : AV) : AC := .op (.append 1 8 bh bj) fun bk => zn (nth v0 0) fun bl => zf 7 bl fun bm => zs bm bk fun bn => zn (nth v0 0) fun bo => zf 0 bo fun bp => (a544x5 v0 bp)
def a544x7 (v0 : List AV) (bd : AV) : AC := zn (nth v0 0) fun bf => zf 7 bf fun bg => zl bg fun bh => zc 237 [(nth v0 1), bd] fun bi => .chk (.load 1 false bg) bh (.op (.bslice 1 1 [(U 0)] [(0, 1, bi)]) fun bj => (a544x6 v0 bh bj))
def a544x8 (v0 : List AV) (bq : AV) : AC := zn (nth v0 0) fun br => zf 9 br fun bs => zs bs bq fun bt => zc 374 [(nth v0 0), (I 0)] fun bu => zr [(B true)]
def a544x9 (v0 : List AV) (bi bk : AV) : AC := zl bk fun bl => zb .add bi bl fun bm => zc 116 [(nth v0 1), bm, (U 1)] fun bn => zn (nth v0 0) fun bo => zf 8 bo fun bp => zl bp fun bq => (a544x8 v0 bq)
def a544x10 (v0 : List AV) : AC := zn (nth v0 0) fun bf => zf 2 bf fun bg => zf 1 bg fun bh => zl bh fun bi => zn (nth v0 0) fun bj => zf 8 bj fun bk => (a544x9 v0 bi bk)
def a544x11 (v0 : List AV) (ba : AV) : AC := zf 0 ba fun bb => zc 546 [bb] fun bc => .op (.extract 0 bc) fun bd => .op (.extract 1 bc) fun be => .ite be (a544x7 v0 bd) (a544x10 v0)
def a544x12 (v0 : List AV) (b6 : AV) : AC := zf 5 b6 fun b7 => zl b7 fun b8 => .op (.eq 507 true b8 Np) fun b9 => .ite b9 (zc 545 [(nth v0 0), (nth v0 1)] fun ba => (a544x0 v0)) (zn (nth v0 0) fun ba => (a544x11 v0 ba))
def a544x13 (v0 : List AV) (b2 : AV) : AC := .ite b2 (zr [(B true)]) (zn (nth v0 0) fun b3 => zf 10 b3 fun b4 => zs b4 (U 0) fun b5 => zn (nth v0 0) fun b6 => (a544x12 v0 b6))
def a544x14 (v0 : List AV) (v1 v6 : AV) : AC := zi v1 (B true) v6 fun v7 => zu v7 (.mv (nth v0 0)) fun v8 => zu v7 (.nilchk v8) fun v9 => zu v7 (.faddr 12 v9) fun b0 => zu v7 (.load 1 false b0) fun b1 => zi v7 (B true) b1 fun b2 => (a544x13 v0 b2)
def a544 : List AV → AC := fun v0 => .op (.eq 442 false (nth v0 0) Np) fun v1 => zu v1 (.mv (nth v0 0)) fun v2 => zu v1 (.nilchk v2) fun v3 => zu v1 (.faddr 11 v3) fun v4 => zu v1 (.load 1 false v4) fun v5 => zu v1 (.un .not v5) fun v6 => (a544x14 v0 v1 v6)
theorem e544 : denFn prog f544 [4] = a544 := by kernel_rfl
def a545x0 (v0 : List AV) (b8 bk : AV) : AC := .ite bk (zc 374 [(nth v0 0), (I 0)] fun bl => zm []) (zc 374 [(nth v0 0), b8] fun bl => zm [])
def a545x1 (v0 : List AV) (b8 bj : AV) : AC := .ite bj (zm []) (zb .eql b8 (I 15) fun bk => .bind (a545x0 v0 b8 bk) none (fun bl => zm []) (fun bl => []))
def a545x2 (v0 : List AV) (b8 bc bh : AV) : AC := zs bh bc fun bi => .bind (zb .eql b8 (I 0) fun bj => .bind (a545x1 v0 b8 bj) none (fun bk => zm []) (fun bk => [])) (some 0) (fun bj => zr []) (fun bj => [])
def a545x3 (v0 : List AV) (b8 bb bc : AV) : AC := zn (nth v0 0) fun bd => zf 5 bd fun be => zs be Np fun bf => .chk (.load 1 false bb) bc (zn (nth v0 0) fun bg => zf 6 bg fun bh => (a545x2 v0 b8 bc bh))
def a545x4 (v0 : List AV) (b6 : AV) : AC := .op (.extract 0 b6) fun b7 => .op (.extract 1 b6) fun b8 => .op (.alloc [(U 0), (I 0)]) fun b9 => .op (.store 2 b9 b7) fun ba => zf 0 b9 fun bb => zl bb fun bc => (a545x3 v0 b8 bb bc)
def a545x5 (v0 : List AV) (b2 : AV) : AC := .ite b2 (zr []) (zn (nth v0 0) fun b3 => zf 5 b3 fun b4 => zl b4 fun b5 => zc 373 [b5] fun b6 => (a545x4 v0 b6))
def a545x6 (v0 : List AV) (v4 v6 : AV) : AC := zl v6 fun v7 => zc 549 [v7] fun v8 => zn (nth v0 0) fun v9 => zf 10 v9 fun b0 => zs b0 v8 fun b1 => .op (.un .not v4) fun b2 => (a545x5 v0 b2)
def a545 : List AV → AC := fun v0 => zn (nth v0 0) fun v1 => zf 5 v1 fun v2 => zl v2 fun v3 => zc 548 [v3, (nth v0 1)] fun v4 => zn (nth v0 0) fun v5 => zf 5 v5 fun v6 => (a545x6 v0 v4 v6)
theorem e545 : denFn prog f545 [] = a545 := by kernel_rfl
def a546x0 (v0 : List AV) (b5 b6 : AV) : AC := zf 1 b6 fun b7 => zs b7 b5 fun b8 => zn (nth v0 0) fun b9 => zf 0 b9 fun ba => zl ba fun bb => zb .sub bb (I 1) fun bc => zr [bc, (B true)]
def a546x1 (v0 : List AV) (v8 b0 : AV) : AC := zs b0 v8 fun b1 => zn (nth v0 0) fun b2 => zf 1 b2 fun b3 => zl b3 fun b4 => zb .sub b4 (I 1) fun b5 => zn (nth v0 0) fun b6 => (a546x0 v0 b5 b6)
def a546x2 (v0 : List AV) : AC := zn (nth v0 0) fun v5 => zf 0 v5 fun v6 => zl v6 fun v7 => zb .add v7 (I 1) fun v8 => zn (nth v0 0) fun v9 => zf 0 v9 fun b0 => (a546x1 v0 v8 b0)
def a546 : List AV → AC := fun v0 => zn (nth v0 0) fun v1 => zf 1 v1 fun v2 => zl v2 fun v3 => zb .eql v3 (I 0) fun v4 => .ite v4 (zr [(I 0), (B false)]) (a546x2 v0)
theorem e546 : denFn prog f546 [2, 3] = a546 := by kernel_rfl
def a547x0 (v0 : List AV) (v1 v2 v6 : AV) : AC := zu v2 (.mv (nth v0 1)) fun v7 => zu v2 (.bin .leq v6 v7) fun v8 => zi v2 (B true) v8 fun v9 => .ite v9 (zr [(I (-1)), (B false)]) (zr [v1, (B true)])
def a547 : List AV → AC := fun v0 => zc 550 [(nth v0 0), (zF 130)] fun v1 => zb .lss v1 (I 0) fun v2 => zu v2 (.mv (nth v0 0)) fun v3 => zu v2 (.mv v1) fun v4 => zu v2 (.saddr 1 v3 v4) fun v5 => zu v2 (.load 1 false v5) fun v6 => (a547x0 v0 v1 v2 v6)
theorem e547 : denFn prog f547 [4, 5] = a547 := by kernel_rfl
def a548x0 (v1 v6 : AV) : AC := zi v1 (B true) v6 fun v7 => zr [v7]
def a548 : List AV → AC := fun v0 => .op (.eq 507 false (nth v0 0) Np) fun v1 => zu v1 (.mv (nth v0 0)) fun v2 => zu v1 (.nilchk v2) fun v3 => zu v1 (.faddr 0 v3) fun v4 => zu v1 (.mv (nth v0 1)) fun v5 => .gcall v1 false (zF 542) [v4, v5] fun v6 => (a548x0 v1 v6)
theorem e548 : denFn prog f548 [] = a548 := by kernel_rfl
def a549x0 (v4 : AV) : AC := zl v4 fun v5 => zr [v5]
def a549 : List AV → AC := fun v0 => .op (.eq 507 false (nth v0 0) Np) fun v1 => .ite v1 (zr [(U 0)]) (zn (nth v0 0) fun v2 => zf 0 v2 fun v3 => zf 17 v3 fun v4 => (a549x0 v4))
theorem e549 : denFn prog f549 [2] = a549 := by kernel_rfl
def a550x0 (v2 : List AV) (b5 : AV) : AC := .bind (.ite b5 (zm [(nth v2 0)]) (zm [(nth v2 1)])) none (fun b6 => zm [(nth b6 0)]) (fun b6 => [(nth b6 0)])
def a550x1 (v2 : List AV) (v6 v7 v8 v9 : AV) : AC := zu v6 (.mv (nth v2 1)) fun b0 => zu v6 (.saddr 1 v9 b0) fun b1 => zu v6 (.load 1 false b1) fun b2 => .gcall v6 false v7 [v8, b2] fun b3 => zu v6 (.bin .gtr b3 (I 0)) fun b4 => zi v6 (B true) b4 fun b5 => (a550x0 v2 b5)
def a550x2 (v0 v2 : List AV) : AC := .op (.saddr 1 (nth v0 0) (nth v2 0)) fun v4 => zl v4 fun v5 => zb .lss (nth v2 1) (I 0) fun v6 => zu v6 (.mv (nth v0 1)) fun v7 => zu v6 (.mv v5) fun v8 => zu v6 (.mv (nth v0 0)) fun v9 => (a550x1 v2 v6 v7 v8 v9)
def a550x3 (v2 v4 : List AV) : AC := zb .add (nth v2 0) (I 1) fun v5 => zm [v5, (nth v4 0)]
def a550x4 (v0 : List AV) (v1 : AV) (v2 : List AV) : AC := zb .lss (nth v2 0) v1 fun v3 => .ite v3 (.bind (a550x2 v0 v2) (some 1) (fun v4 => (a550x3 v2 v4)) (fun v4 => [(nth v2 0), (nth v4 0)])) (.ret (.exit 0) [(nth v2 0), (nth v2 1)])
def a550 : List AV → AC := fun v0 => .op (.len false (nth v0 0)) fun v1 => .bind (.loop [(I 0), (I (-1))] (fun v2 => (a550x4 v0 v1 v2)) (fun v2 => [(nth v2 0), (nth v2 1)])) (some 0) (fun v2 => zr [(nth v2 1)]) (fun v2 => [(I 0)])
theorem e550 : denFn prog f550 [5, 10] = a550 := by kernel_rfl
def a551x0 (v4 : AV) : AC := zl v4 fun v5 => zr [v5]
def a551 : List AV → AC := fun v0 => .op (.eq 447 false (nth v0 0) Np) fun v1 => .ite v1 (zr [(U 0)]) (zn (nth v0 0) fun v2 => zf 0 v2 fun v3 => zf 17 v3 fun v4 => (a551x0 v4))
theorem e551 : denFn prog f551 [2] = a551 := by kernel_rfl
def a552x0 (v1 v6 : AV) : AC := zi v1 (B true) v6 fun v7 => zr [v7]
def a552 : List AV → AC := fun v0 => .op (.eq 447 false (nth v0 0) Np) fun v1 => zu v1 (.mv (nth v0 0)) fun v2 => zu v1 (.nilchk v2) fun v3 => zu v1 (.faddr 0 v3) fun v4 => zu v1 (.mv (nth v0 1)) fun v5 => .gcall v1 false (zF 542) [v4, v5] fun v6 => (a552x0 v1 v6)
theorem e552 : denFn prog f552 [] = a552 := by kernel_rfl
def a553x0 (v0 : List AV) (v8 : AV) : AC := zn (nth v0 0) fun v9 => zf 3 v9 fun b0 => zs b0 v8 fun b1 => zn (nth v0 0) fun b2 => zf 4 b2 fun b3 => zs b3 (B true) fun b4 => zm []
def a553x1 (v0 : List AV) (v4 : AV) : AC := .ite v4 (zn (nth v0 0) fun v5 => zf 0 v5 fun v6 => zl v6 fun v7 => .call v7 [] fun v8 => (a553x0 v0 v8)) (zm [])
def a553x2 (b6 b9 : AV) : AC := .call b6 [b9] fun ba => zm [ba]
def a553x3 (v0 : List AV) : AC := zn (nth v0 0) fun b4 => zf 1 b4 fun b5 => zl b5 fun b6 => zn (nth v0 0) fun b7 => zf 3 b7 fun b8 => zl b8 fun b9 => (a553x2 b6 b9)
def a553x4 (bd be : AV) : AC := zf 3 be fun bf => zl bf fun bg => .call bd [bg] fun bh => zm []
def a553x5 (v0 : List AV) (ba : AV) : AC := .ite ba (zn (nth v0 0) fun bb => zf 2 bb fun bc => zl bc fun bd => zn (nth v0 0) fun be => (a553x4 bd be)) (zm [])
def a553x6 (v0 : List AV) (v9 : AV) (b4 : List AV) (b5 : AV) : AC := zt v9 (.nilchk b5) fun b6 => zt v9 (.faddr 2 b6) fun b7 => zt v9 (.load 1 false b7) fun b8 => zt v9 (.eq 524 true b8 Nf) fun b9 => zi v9 b9 (B false) fun ba => .bind (a553x5 v0 ba) none (fun bb => zr [v9, (nth b4 0)]) (fun bb => [(B false), (U 0)])
def a553x7 (v0 : List AV) (v9 b1 : AV) : AC := zl b1 fun b2 => .op (.eq 523 true b2 Nf) fun b3 => .bind (.ite b3 (a553x3 v0) (zm [(U 0)])) none (fun b4 => zt v9 (.mv (nth v0 0)) fun b5 => (a553x6 v0 v9 b4 b5)) (fun b4 => [(B false), (U 0)])
def a553x8 (v0 : List AV) : AC := zn (nth v0 0) fun v6 => zf 3 v6 fun v7 => zl v7 fun v8 => .call (.fn (.method "Step") [] []) [(.iface 520 v8), (nth v0 1)] fun v9 => zn (nth v0 0) fun b0 => zf 1 b0 fun b1 => (a553x7 v0 v9 b1)
def a553 : List AV → AC := fun v0 => zn (nth v0 0) fun v1 => zf 4 v1 fun v2 => zl v2 fun v3 => .op (.un .not v3) fun v4 => .bind (a553x1 v0 v4) none (fun v5 => (a553x8 v0)) (fun v5 => [(B false), (U 0)])
theorem e553 : denFn prog f553 [7] = a553 := by kernel_rfl
def a554x0 (b1 b6 : AV) : AC := .ite b6 (zm [b6]) (zb .eql b1 (I 6) fun b7 => zm [b7])
def a554x1 (b1 b5 : AV) : AC := .ite b5 (zm [b5]) (zb .eql b1 (I 5) fun b6 => .bind (a554x0 b1 b6) none (fun b7 => zm [(nth b7 0)]) (fun b7 => [(nth b7 0)]))
def a554x2 (b6 : List AV) (ba : AV) : AC := .ite ba (.ret (.exit 10) [(nth b6 0)]) (.ret (.exit 11) [(nth b6 0)])
def a554x3 (b1 : AV) (b6 : List AV) (b8 : AV) : AC := .ite b8 (.ret (.exit 8) [(nth b6 0)]) (zb .eql b1 (I 9) fun b9 => .ite b9 (.ret (.exit 9) [(nth b6 0)]) (zb .eql b1 (I 91) fun ba => (a554x2 b6 ba)))
def a554x4 (b1 : AV) (b6 : List AV) : AC := .ite (nth b6 0) (.ret (.exit 6) [(nth b6 0)]) (zb .eql b1 (I 7) fun b7 => .ite b7 (.ret (.exit 7) [(nth b6 0)]) (zb .eql b1 (I 8) fun b8 => (a554x3 b1 b6 b8)))
def a554x5 (v7 : List AV) (b1 : AV) : AC := zb .eql b1 (I 3) fun b4 => .ite b4 (.ret (.exit 5) [(nth v7 0)]) (zb .eql b1 (I 4) fun b5 => .bind (a554x1 b1 b5) none (fun b6 => (a554x4 b1 b6)) (fun b6 => [(nth b6 0)]))
def a554x6 (v7 : List AV) (b1 : AV) : AC := zb .eql b1 (I 1) fun b2 => .ite b2 (.ret (.exit 3) [(nth v7 0)]) (zb .eql b1 (I 2) fun b3 => .ite b3 (.ret (.exit 4) [(nth v7 0)]) (a554x5 v7 b1))
def a554x7 (v7 : List AV) (b1 : AV) : AC := .bind (.bind (a554x6 v7 b1) (some 3) (fun b2 => zm [(nth b2 0)]) (fun b2 => [(nth b2 0)])) (some 4) (fun b2 => zm [(nth b2 0)]) (fun b2 => [(nth b2 0)])
def a554x8 (v0 b2 : List AV) : AC := zn (nth v0 0) fun b3 => zf 0 b3 fun b4 => zc 557 [b4, (nth v0 1)] fun b5 => .ret (.exit 0) [(nth b2 0)]
def a554x9 (v0 v7 : List AV) (b1 : AV) : AC := .bind (.bind (a554x7 v7 b1) (some 5) (fun b2 => (a554x8 v0 b2)) (fun b2 => [(nth b2 0)])) (some 6) (fun b2 => zc 558 [(nth v0 0), (nth v0 1)] fun b3 => .ret (.exit 0) [(nth b2 0)]) (fun b2 => [(nth b2 0)])
def a554x10 (v0 : List AV) (bi : AV) : AC := .ite bi (zn (nth v0 0) fun bj => zf 0 bj fun bk => zf 17 bk fun bl => zs bl (I 3) fun bm => zm []) (zm [])
def a554x11 (v0 b2 : List AV) (be : AV) : AC := zf 0 be fun bf => zf 20 bf fun bg => zl bg fun bh => zc 560 [bh] fun bi => .bind (a554x10 v0 bi) none (fun bj => .ret (.exit 0) [(nth b2 0)]) (fun bj => [(nth b2 0)])
def a554x12 (v0 b2 : List AV) (b5 b8 : AV) : AC := zs b8 b5 fun b9 => zn (nth v0 0) fun ba => zf 0 ba fun bb => zf 17 bb fun bc => zs bc (I 8) fun bd => zn (nth v0 0) fun be => (a554x11 v0 b2 be)
def a554x13 (v0 b2 : List AV) : AC := zn (nth v0 0) fun b3 => zf 0 b3 fun b4 => zc 559 [b4, (nth v0 1), (I 4)] fun b5 => zn (nth v0 0) fun b6 => zf 0 b6 fun b7 => zf 20 b7 fun b8 => (a554x12 v0 b2 b5 b8)
def a554x14 (c4 : AV) : AC := zf 0 c4 fun c5 => zf 17 c5 fun c6 => zs c6 (I 9) fun c7 => zm []
def a554x15 (v0 : List AV) : AC := zn (nth v0 0) fun bz => zf 0 bz fun c0 => zf 13 c0 fun c1 => zf 1 c1 fun c2 => zs c2 (B true) fun c3 => zn (nth v0 0) fun c4 => (a554x14 c4)
def a554x16 (v0 b2 : List AV) (bq bv bw : AV) : AC := zc 388 [(nth v0 1), bv, bq, bw] fun bx => .bind (.ite bx (a554x15 v0) (zm [])) none (fun bz => .ret (.exit 0) [(nth b2 0)]) (fun bz => [(nth b2 0)])
def a554x17 (v0 b2 : List AV) (bi bm bp bq bt : AV) : AC := zl bt fun bu => zc 445 [bi, bm, (I 0)] fun bv => .chk (.load 1 false bp) bq (.chk (.load 1 false bt) bu (zc 561 [bu, (B true)] fun bw => .chk (.load 1 false bp) bq (a554x16 v0 b2 bq bv bw)))
def a554x18 (v0 b2 : List AV) (bi bm bn : AV) : AC := zf 0 bn fun bo => zf 20 bo fun bp => zl bp fun bq => zn (nth v0 0) fun br => zf 0 br fun bs => zf 20 bs fun bt => (a554x17 v0 b2 bi bm bp bq bt)
def a554x19 (v0 b2 : List AV) (bh : AV) : AC := .op (.load 13 true bh) fun bi => zn (nth v0 0) fun bj => zf 0 bj fun bk => zf 19 bk fun bl => zl bl fun bm => zn (nth v0 0) fun bn => (a554x18 v0 b2 bi bm bn)
def a554x20 (v0 b2 : List AV) (bb : AV) : AC := zf 0 bb fun bc => zf 17 bc fun bd => zs bd (I 7) fun be => zn (nth v0 0) fun bf => zf 0 bf fun bg => zf 0 bg fun bh => (a554x19 v0 b2 bh)
def a554x21 (v0 b2 : List AV) (b5 : AV) : AC := zl b5 fun b6 => zn (nth v0 0) fun b7 => zf 0 b7 fun b8 => zf 23 b8 fun b9 => zs b9 b6 fun ba => zn (nth v0 0) fun bb => (a554x20 v0 b2 bb)
def a554x22 (v0 v7 : List AV) (b1 : AV) : AC := .bind (.bind (a554x9 v0 v7 b1) (some 7) (fun b2 => (a554x13 v0 b2)) (fun b2 => [(nth b2 0)])) (some 8) (fun b2 => zn (nth v0 0) fun b3 => zf 0 b3 fun b4 => zf 18 b4 fun b5 => (a554x21 v0 b2 b5)) (fun b2 => [(nth b2 0)])
def a554x23 (v0 b2 : List AV) (b5 b8 : AV) : AC := zf 0 b8 fun b9 => zs b9 b5 fun ba => zn (nth v0 0) fun bb => zf 0 bb fun bc => zf 17 bc fun bd => zs bd (I 91) fun be => .ret (.exit 0) [(nth b2 0)]
def a554x24 (v0 b2 : List AV) : AC := zn (nth v0 0) fun b3 => zf 0 b3 fun b4 => zc 559 [b4, (nth v0 1), (I 0)] fun b5 => zn (nth v0 0) fun b6 => zf 0 b6 fun b7 => zf 21 b7 fun b8 => (a554x23 v0 b2 b5 b8)
def a554x25 (b2 : List AV) (bn : AV) : AC := zs bn (I 10) fun bo => .ret (.exit 0) [(nth b2 0)]
def a554x26 (v0 b2 : List AV) (bf bh : AV) : AC := zf 13 bh fun bi => zf 2 bi fun bj => zs bj bf fun bk => zn (nth v0 0) fun bl => zf 0 bl fun bm => zf 17 bm fun bn => (a554x25 b2 bn)
def a554x27 (v0 b2 : List AV) (b9 bb : AV) : AC := zf 21 bb fun bc => zf 0 bc fun bd => zl bd fun be => zc 478 [b9, be] fun bf => zn (nth v0 0) fun bg => zf 0 bg fun bh => (a554x26 v0 b2 bf bh)
def a554x28 (v0 b2 : List AV) : AC := zn (nth v0 0) fun b6 => zf 0 b6 fun b7 => zf 0 b7 fun b8 => .op (.load 13 true b8) fun b9 => zn (nth v0 0) fun ba => zf 0 ba fun bb => (a554x27 v0 b2 b9 bb)
def a554x29 (v0 v7 : List AV) (b1 : AV) : AC := .bind (.bind (a554x22 v0 v7 b1) (some 9) (fun b2 => (a554x24 v0 b2)) (fun b2 => [(nth b2 0)])) (some 10) (fun b2 => zn (nth v0 0) fun b3 => zf 0 b3 fun b4 => zc 562 [b4, (nth v0 1)] fun b5 => (a554x28 v0 b2)) (fun b2 => [(nth b2 0)])
def a554x30 (v0 b2 : List AV) : AC := zc 563 [(nth v0 0), (nth v0 1)] fun b3 => .ret (.exit 0) [(nth b2 0)]
def a554x31 (v0 v7 : List AV) (b0 : AV) : AC := zl b0 fun b1 => .bind (.bind (a554x29 v0 v7 b1) (some 11) (fun b2 => (a554x30 v0 b2)) (fun b2 => [(nth b2 0)])) (some 2) (fun b2 => zm [(nth b2 0)]) (fun b2 => [(nth b2 0)])
def a554x32 (v0 v7 : List AV) : AC := .bind (zn (nth v0 0) fun v8 => zf 0 v8 fun v9 => zf 17 v9 fun b0 => (a554x31 v0 v7 b0)) (some 1) (fun v8 => zm [(nth v8 0)]) (fun v8 => [(nth v8 0)])
def a554x33 (v8 : AV) : AC := zf 0 v8 fun v9 => zf 17 v9 fun b0 => zl b0 fun b1 => zb .eql b1 (I 99) fun b2 => zr [b2]
def a554x34 (v0 : List AV) (v6 : AV) : AC := .ite v6 (zr [(B true)]) (.bind (.loop [.no] (fun v7 => (a554x32 v0 v7)) (fun v7 => [(nth v7 0)])) (some 0) (fun v7 => zn (nth v0 0) fun v8 => (a554x33 v8)) (fun v7 => [(B false)]))
def a554 : List AV → AC := fun v0 => .op (.eq 520 false (nth v0 0) Np) fun v1 => zu v1 (.mv (nth v0 0)) fun v2 => zu v1 (.nilchk v2) fun v3 => zu v1 (.faddr 0 v3) fun v4 => .gcall v1 false (zF 556) [v4] fun v5 => zi v1 (B true) v5 fun v6 => (a554x34 v0 v6)
theorem e554 : denFn prog f554 [4, 24] = a554 := by kernel_rfl
def a555x0 (v0 : List AV) (bb : AV) : AC := .ite bb (zn (nth v0 0) fun bc => zf 0 bc fun bd => zf 17 bd fun be => zs be (I 7) fun bf => zm []) (zm [])
def a555x1 (v0 : List AV) (b8 : AV) : AC := zf 0 b8 fun b9 => zl b9 fun ba => zb .lss ba (I 1) fun bb => .bind (a555x0 v0 bb) none (fun bc => zr []) (fun bc => [])
def a555x2 (v0 : List AV) (b2 : AV) : AC := zf 0 b2 fun b3 => zf 17 b3 fun b4 => zs b4 (I 5) fun b5 => zn (nth v0 0) fun b6 => zf 0 b6 fun b7 => zf 13 b7 fun b8 => (a555x1 v0 b8)
def a555x3 (v0 : List AV) (v6 : AV) : AC := zn (nth v0 0) fun v7 => zf 0 v7 fun v8 => zf 13 v8 fun v9 => zf 0 v9 fun b0 => zs b0 v6 fun b1 => zn (nth v0 0) fun b2 => (a555x2 v0 b2)
def a555 : List AV → AC := fun v0 => zn (nth v0 0) fun v1 => zf 0 v1 fun v2 => zf 13 v2 fun v3 => zf 0 v3 fun v4 => zl v4 fun v5 => zb .sub v5 (I 1) fun v6 => (a555x3 v0 v6)
theorem e555 : denFn prog f555 [] = a555 := by kernel_rfl
def a556x0 (v4 v6 : AV) : AC := zu v4 (.faddr 17 v6) fun v7 => zu v4 (.load 1 false v7) fun v8 => zu v4 (.bin .eql v8 (I 99)) fun v9 => zi v4 (B true) v9 fun b0 => zr [b0]
def a556 : List AV → AC := fun v0 => zn (nth v0 0) fun v1 => zf 24 v1 fun v2 => zl v2 fun v3 => .op (.un .not v3) fun v4 => zu v4 (.mv (nth v0 0)) fun v5 => zu v4 (.nilchk v5) fun v6 => (a556x0 v4 v6)
theorem e556 : denFn prog f556 [] = a556 := by kernel_rfl
def a557x0 (c8 : AV) : AC := zf 25 c8 fun c9 => zs c9 (I 15) fun ca => zm []
def a557x1 (v0 : List AV) (c4 : AV) : AC := .ite c4 (zn (nth v0 0) fun c5 => zf 17 c5 fun c6 => zs c6 (I 99) fun c7 => zn (nth v0 0) fun c8 => (a557x0 c8)) (zm [])
def a557x2 (v0 : List AV) (bp bt c1 : AV) : AC := zu bp (.load 1 false c1) fun c2 => zu bp (.bin .geq bt c2) fun c3 => zi bp (B true) c3 fun c4 => .bind (a557x1 v0 c4) none (fun c5 => zm []) (fun c5 => [])
def a557x3 (v0 : List AV) (bp bt bu : AV) : AC := zu bp (.nilchk bu) fun bv => zu bp (.faddr 0 bv) fun bw => zu bp (.faddr 3 bw) fun bx => zu bp (.faddr 0 bx) fun bz => zu bp (.faddr 0 bz) fun c0 => zu bp (.faddr 2 c0) fun c1 => (a557x2 v0 bp bt c1)
def a557x4 (v0 : List AV) (bo : AV) : AC := zb .lss bo (I 0) fun bp => zu bp (.mv (nth v0 0)) fun bq => zu bp (.nilchk bq) fun br => zu bp (.faddr 19 br) fun bs => zu bp (.load 1 false bs) fun bt => zu bp (.mv (nth v0 0)) fun bu => (a557x3 v0 bp bt bu)
def a557x5 (v0 : List AV) : AC := zn (nth v0 0) fun bj => zf 17 bj fun bk => zs bk (I 2) fun bl => zn (nth v0 0) fun bm => zf 19 bm fun bn => zl bn fun bo => (a557x4 v0 bo)
def a557x6 (v0 : List AV) (ba bc : AV) : AC := .op (.store 2 bc ba) fun bd => zf 0 bc fun be => zl be fun bf => zn (nth v0 0) fun bg => zf 19 bg fun bh => zs bh bf fun bi => (a557x5 v0)
def a557x7 (v0 : List AV) (b6 : AV) : AC := zf 18 b6 fun b7 => zl b7 fun b8 => zc 447 [b8] fun b9 => .op (.extract 0 b9) fun ba => .op (.extract 1 b9) fun bb => .op (.alloc [(I 0), (I 0)]) fun bc => (a557x6 v0 ba bc)
def a557x8 (v0 : List AV) (b0 : AV) : AC := zc 445 [b0, (I (-1)), (I 0)] fun b1 => zc 237 [(nth v0 1), b1] fun b2 => zn (nth v0 0) fun b3 => zf 18 b3 fun b4 => zs b4 b2 fun b5 => zn (nth v0 0) fun b6 => (a557x7 v0 b6)
def a557x9 (v0 : List AV) : AC := zn (nth v0 0) fun v5 => zf 23 v5 fun v6 => zs v6 (U 0) fun v7 => zn (nth v0 0) fun v8 => zf 0 v8 fun v9 => .op (.load 13 true v9) fun b0 => (a557x8 v0 b0)
def a557x10 (v0 : List AV) (b6 : AV) : AC := .ite b6 (zn (nth v0 0) fun b7 => zf 17 b7 fun b8 => zs b8 (I 3) fun b9 => zm []) (zm [])
def a557x11 (v0 : List AV) (b1 : AV) : AC := zs b1 (I 4) fun b2 => zn (nth v0 0) fun b3 => zf 20 b3 fun b4 => zl b4 fun b5 => zc 560 [b5] fun b6 => .bind (a557x10 v0 b6) none (fun b7 => zm []) (fun b7 => [])
def a557x12 (v0 : List AV) : AC := zc 559 [(nth v0 0), (nth v0 1), (I 4)] fun v6 => zn (nth v0 0) fun v7 => zf 20 v7 fun v8 => zs v8 v6 fun v9 => zn (nth v0 0) fun b0 => zf 17 b0 fun b1 => (a557x11 v0 b1)
def a557x13 (v0 : List AV) : AC := zn (nth v0 0) fun bc => zf 17 bc fun bd => zs bd (I 1) fun be => zm []
def a557x14 (v0 : List AV) (b2 b4 b5 b7 b8 : AV) : AC := zc 445 [b2, (I (-1)), (I 0)] fun b9 => .chk (.load 1 false b4) b5 (.chk (.load 1 false b7) b8 (zc 561 [b8, (B false)] fun ba => .chk (.load 1 false b4) b5 (zc 388 [(nth v0 1), b9, b5, ba] fun bb => (a557x13 v0))))
def a557x15 (v0 : List AV) (b2 : AV) : AC := zn (nth v0 0) fun b3 => zf 18 b3 fun b4 => zl b4 fun b5 => zn (nth v0 0) fun b6 => zf 20 b6 fun b7 => zl b7 fun b8 => (a557x14 v0 b2 b4 b5 b7 b8)
def a557x16 (v0 : List AV) : AC := zn (nth v0 0) fun v7 => zf 23 v7 fun v8 => zs v8 (U 0) fun v9 => zn (nth v0 0) fun b0 => zf 0 b0 fun b1 => .op (.load 13 true b1) fun b2 => (a557x15 v0 b2)
def a557x17 (v0 : List AV) (v3 : AV) : AC := zb .eql v3 (I 3) fun v6 => .bind (.ite v6 (a557x16 v0) (zm [])) none (fun v7 => zm []) (fun v7 => [])
def a557x18 (v0 : List AV) (v3 : AV) : AC := zb .eql v3 (I 2) fun v5 => .bind (.ite v5 (a557x12 v0) (a557x17 v0 v3)) none (fun v6 => zm []) (fun v6 => [])
def a557x19 (v0 : List AV) (v3 : AV) : AC := zb .eql v3 (I 1) fun v4 => .bind (.ite v4 (a557x9 v0) (a557x18 v0 v3)) none (fun v5 => zm []) (fun v5 => [])
def a557 : List AV → AC := fun v0 => zn (nth v0 0) fun v1 => zf 17 v1 fun v2 => zl v2 fun v3 => .bind (a557x19 v0 v3) (some 0) (fun v4 => zr []) (fun v4 => [])
theorem e557 : denFn prog f557 [] = a557 := by kernel_rfl
def a558x0 (v0 : List AV) (b8 : AV) : AC := .op (.conv .i64 b8) fun bg => zn (nth v0 0) fun bh => zf 0 bh fun bi => zf 13 bi fun bj => zf 0 bj fun bk => zs bk bg fun bl => zm []
def a558x1 (v0 : List AV) (b8 bd : AV) : AC := .op (.conv .u64 bd) fun be => zb .lss b8 be fun bf => .bind (.ite bf (a558x0 v0 b8) (zm [])) none (fun bg => zc 555 [(nth v0 0)] fun bh => zm []) (fun bg => [])
def a558x2 (v0 : List AV) (b7 : AV) : AC := zc 559 [b7, (nth v0 1), (I 2)] fun b8 => zn (nth v0 0) fun b9 => zf 0 b9 fun ba => zf 0 ba fun bb => zf 2 bb fun bc => zl bc fun bd => (a558x1 v0 b8 bd)
def a558x3 (v0 : List AV) (b0 b1 : AV) : AC := zf 0 b1 fun b2 => zf 13 b2 fun b3 => zf 0 b3 fun b4 => zs b4 b0 fun b5 => zn (nth v0 0) fun b6 => zf 0 b6 fun b7 => (a558x2 v0 b7)
def a558x4 (v0 : List AV) : AC := zn (nth v0 0) fun v6 => zf 0 v6 fun v7 => zf 0 v7 fun v8 => zf 2 v8 fun v9 => zl v9 fun b0 => zn (nth v0 0) fun b1 => (a558x3 v0 b0 b1)
def a558x5 (v0 : List AV) (bi : AV) : AC := .ite bi (zc 555 [(nth v0 0)] fun bj => zm []) (zm [])
def a558x6 (v0 : List AV) (be : AV) : AC := zf 0 be fun bf => zf 20 bf fun bg => zl bg fun bh => zc 560 [bh] fun bi => .bind (a558x5 v0 bi) none (fun bj => zm []) (fun bj => [])
def a558x7 (v0 : List AV) (b5 b8 : AV) : AC := zs b8 b5 fun b9 => zn (nth v0 0) fun ba => zf 0 ba fun bb => zf 17 bb fun bc => zs bc (I 6) fun bd => zn (nth v0 0) fun be => (a558x6 v0 be)
def a558x8 (v0 : List AV) (v8 b2 : AV) : AC := zl b2 fun b3 => zb .add (I 4) b3 fun b4 => zc 559 [v8, (nth v0 1), b4] fun b5 => zn (nth v0 0) fun b6 => zf 0 b6 fun b7 => zf 20 b7 fun b8 => (a558x7 v0 b5 b8)
def a558x9 (v0 : List AV) : AC := zn (nth v0 0) fun v7 => zf 0 v7 fun v8 => zn (nth v0 0) fun v9 => zf 0 v9 fun b0 => zf 13 b0 fun b1 => zf 0 b1 fun b2 => (a558x8 v0 v8 b2)
def a558x10 (v0 : List AV) (bx : AV) : AC := .ite bx (zc 555 [(nth v0 0)] fun bz => zm []) (zm [])
def a558x11 (v0 : List AV) (bp bq bu bv : AV) : AC := zc 561 [bu, (B true)] fun bw => .chk (.load 1 false bp) bq (zc 388 [(nth v0 1), bv, bq, bw] fun bx => .bind (a558x10 v0 bx) none (fun bz => zm []) (fun bz => []))
def a558x12 (v0 : List AV) (bd bh bm bp bq br : AV) : AC := zf 0 br fun bs => zf 20 bs fun bt => zl bt fun bu => zc 445 [bd, bh, bm] fun bv => .chk (.load 1 false bp) bq (.chk (.load 1 false bt) bu (a558x11 v0 bp bq bu bv))
def a558x13 (v0 : List AV) (bd bh bl : AV) : AC := zl bl fun bm => zn (nth v0 0) fun bn => zf 0 bn fun bo => zf 20 bo fun bp => zl bp fun bq => zn (nth v0 0) fun br => (a558x12 v0 bd bh bm bp bq br)
def a558x14 (v0 : List AV) (bd bf : AV) : AC := zf 19 bf fun bg => zl bg fun bh => zn (nth v0 0) fun bi => zf 0 bi fun bj => zf 13 bj fun bk => zf 0 bk fun bl => (a558x13 v0 bd bh bl)
def a558x15 (v0 : List AV) : AC := zn (nth v0 0) fun ba => zf 0 ba fun bb => zf 0 bb fun bc => .op (.load 13 true bc) fun bd => zn (nth v0 0) fun be => zf 0 be fun bf => (a558x14 v0 bd bf)
def a558x16 (v0 : List AV) (b1 b3 : AV) : AC := zf 23 b3 fun b4 => zs b4 b1 fun b5 => zn (nth v0 0) fun b6 => zf 0 b6 fun b7 => zf 17 b7 fun b8 => zs b8 (I 5) fun b9 => (a558x15 v0)
def a558x17 (v0 : List AV) : AC := zn (nth v0 0) fun v8 => zf 0 v8 fun v9 => zf 18 v9 fun b0 => zl b0 fun b1 => zn (nth v0 0) fun b2 => zf 0 b2 fun b3 => (a558x16 v0 b1 b3)
def a558x18 (v0 : List AV) (v4 : AV) : AC := zb .eql v4 (I 6) fun v7 => .bind (.ite v7 (a558x17 v0) (zm [])) none (fun v8 => zm []) (fun v8 => [])
def a558x19 (v0 : List AV) (v4 : AV) : AC := zb .eql v4 (I 5) fun v6 => .bind (.ite v6 (a558x9 v0) (a558x18 v0 v4)) none (fun v7 => zm []) (fun v7 => [])
def a558x20 (v0 : List AV) (v4 : AV) : AC := zb .eql v4 (I 4) fun v5 => .bind (.ite v5 (a558x4 v0) (a558x19 v0 v4)) none (fun v6 => zm []) (fun v6 => [])
def a558 : List AV → AC := fun v0 => zn (nth v0 0) fun v1 => zf 0 v1 fun v2 => zf 17 v2 fun v3 => zl v3 fun v4 => .bind (a558x20 v0 v4) (some 0) (fun v5 => zr []) (fun v5 => [])
theorem e558 : denFn prog f558 [] = a558 := by kernel_rfl
def a559x0 (v0 : List AV) (v9 b2 : AV) : AC := zc 83 [v9, b2, (nth v0 2)] fun b3 => zc 237 [(nth v0 1), b3] fun b4 => zr [b4]
def a559x1 (v0 : List AV) : AC := zn (nth v0 0) fun v7 => zf 0 v7 fun v8 => .op (.load 13 true v8) fun v9 => zn (nth v0 0) fun b0 => zf 19 b0 fun b1 => zl b1 fun b2 => (a559x0 v0 v9 b2)
def a559 : List AV → AC := fun v0 => zn (nth v0 0) fun v1 => zf 18 v1 fun v2 => zl v2 fun v3 => zn (nth v0 0) fun v4 => zf 23 v4 fun v5 => zs v5 v3 fun v6 => (a559x1 v0)
theorem e559 : denFn prog f559 [] = a559 := by kernel_rfl
def a560 : List AV → AC := fun v0 => zc 477 [(nth v0 0)] fun v1 => zr [v1]
theorem e560 : denFn prog f560 [] = a560 := by kernel_rfl
def a561 : List AV → AC := fun v0 => zc 476 [(nth v0 0), (nth v0 1)] fun v1 => zr [v1]
theorem e561 : denFn prog f561 [] = a561 := by kernel_rfl
def a562x0 (v3 v6 : AV) : AC := zs v6 v3 fun v7 => zr []
def a562 : List AV → AC := fun v0 => zc 559 [(nth v0 0), (nth v0 1), (I 1)] fun v1 => zb .and v1 (U 65535) fun v2 => .op (.conv .i64 v2) fun v3 => zn (nth v0 0) fun v4 => zf 21 v4 fun v5 => zf 1 v5 fun v6 => (a562x0 v3 v6)
theorem e562 : denFn prog f562 [] = a562 := by kernel_rfl
def a563x0 (b2 : AV) : AC := zf 0 b2 fun b3 => zf 17 b3 fun b4 => zs b4 (I 11) fun b5 => zm []
def a563x1 (b8 bb : AV) : AC := zs bb b8 fun bc => zm []
def a563x2 (v0 : List AV) (b5 : AV) : AC := zf 2 b5 fun b6 => zl b6 fun b7 => zc 565 [b7] fun b8 => zn (nth v0 0) fun b9 => zf 0 b9 fun ba => zf 23 ba fun bb => (a563x1 b8 bb)
def a563x3 (v0 : List AV) (b1 : AV) : AC := .bind (.ite b1 (zn (nth v0 0) fun b2 => (a563x0 b2)) (zm [])) none (fun b2 => zn (nth v0 0) fun b3 => zf 0 b3 fun b4 => zf 13 b4 fun b5 => (a563x2 v0 b5)) (fun b2 => [])
def a563x4 (v0 : List AV) : AC := zn (nth v0 0) fun v6 => zf 0 v6 fun v7 => zf 13 v7 fun v8 => zf 2 v8 fun v9 => zl v9 fun b0 => zc 564 [b0, (nth v0 1)] fun b1 => (a563x3 v0 b1)
def a563x5 (c0 : AV) : AC := zf 0 c0 fun c1 => zf 17 c1 fun c2 => zs c2 (I 12) fun c3 => zm []
def a563x6 (v0 : List AV) (bt : AV) : AC := zn (nth v0 0) fun bu => zf 0 bu fun bv => zf 13 bv fun bw => zf 3 bw fun bx => zs bx bt fun bz => zn (nth v0 0) fun c0 => (a563x5 c0)
def a563x7 (v0 : List AV) (bn : AV) : AC := .op (.load 10 true bn) fun bo => zn (nth v0 0) fun bp => zf 0 bp fun bq => zf 19 bq fun br => zl br fun bs => zc 566 [bo, bs] fun bt => (a563x6 v0 bt)
def a563x8 (v0 : List AV) (bj : AV) : AC := .ite bj (zn (nth v0 0) fun bk => zf 0 bk fun bl => zf 0 bl fun bm => zf 3 bm fun bn => (a563x7 v0 bn)) (zm [])
def a563x9 (v0 : List AV) (bc be : AV) : AC := zf 19 be fun bf => zl bf fun bg => zc 83 [bc, bg, (I 3)] fun bh => zc 205 [(nth v0 1), bh, (U 18446744073709551615)] fun bi => zb .eql bi (U 0) fun bj => .bind (a563x8 v0 bj) none (fun bk => zm []) (fun bk => [])
def a563x10 (v0 : List AV) : AC := zn (nth v0 0) fun b9 => zf 0 b9 fun ba => zf 0 ba fun bb => .op (.load 13 true bb) fun bc => zn (nth v0 0) fun bd => zf 0 bd fun be => (a563x9 v0 bc be)
def a563x11 (v0 : List AV) (b0 b2 : AV) : AC := zf 23 b2 fun b3 => zs b3 b0 fun b4 => zn (nth v0 0) fun b5 => zf 0 b5 fun b6 => zf 17 b6 fun b7 => zs b7 (I 99) fun b8 => (a563x10 v0)
def a563x12 (v0 : List AV) : AC := zn (nth v0 0) fun v7 => zf 0 v7 fun v8 => zf 18 v8 fun v9 => zl v9 fun b0 => zn (nth v0 0) fun b1 => zf 0 b1 fun b2 => (a563x11 v0 b0 b2)
def a563x13 (v0 : List AV) (b7 : AV) : AC := .ite b7 (zn (nth v0 0) fun b8 => zf 0 b8 fun b9 => zf 17 b9 fun ba => zs ba (I 99) fun bb => zm []) (zm [])
def a563x14 (v0 : List AV) (b3 : AV) : AC := zf 13 b3 fun b4 => zf 3 b4 fun b5 => zl b5 fun b6 => zc 567 [b6, (nth v0 1)] fun b7 => .bind (a563x13 v0 b7) none (fun b8 => zm []) (fun b8 => [])
def a563x15 (v0 : List AV) : AC := zn (nth v0 0) fun v8 => zf 0 v8 fun v9 => zf 23 v9 fun b0 => zs b0 (U 0) fun b1 => zn (nth v0 0) fun b2 => zf 0 b2 fun b3 => (a563x14 v0 b3)
def a563x16 (v0 : List AV) (v4 : AV) : AC := zb .eql v4 (I 12) fun v7 => .bind (.ite v7 (a563x15 v0) (zm [])) none (fun v8 => zm []) (fun v8 => [])
def a563x17 (v0 : List AV) (v4 : AV) : AC := zb .eql v4 (I 11) fun v6 => .bind (.ite v6 (a563x12 v0) (a563x16 v0 v4)) none (fun v7 => zm []) (fun v7 => [])
def a563x18 (v0 : List AV) (v4 : AV) : AC := zb .eql v4 (I 10) fun v5 => .bind (.ite v5 (a563x4 v0) (a563x17 v0 v4)) none (fun v6 => zm []) (fun v6 => [])
def a563 : List AV → AC := fun v0 => zn (nth v0 0) fun v1 => zf 0 v1 fun v2 => zf 17 v2 fun v3 => zl v3 fun v4 => .bind (a563x18 v0 v4) (some 0) (fun v5 => zr []) (fun v5 => [])
theorem e563 : denFn prog f563 [] = a563 := by kernel_rfl
def a564x0 (v0 : List AV) : AC := zc 486 [(nth v0 0)] fun c8 => .ret (.exit 0) []
def a564x1 (v0 : List AV) (c3 : AV) : AC := zf 15 c3 fun c4 => zf 3 c4 fun c5 => zl c5 fun c6 => zc 477 [c6] fun c7 => .ite c7 (a564x0 v0) (zm [])
def a564x2 (v0 : List AV) (bf : AV) : AC := zc 237 [(nth v0 1), bf] fun bx => zn (nth v0 0) fun bz => zf 15 bz fun c0 => zf 3 c0 fun c1 => zs c1 bx fun c2 => zn (nth v0 0) fun c3 => (a564x1 v0 c3)
def a564x3 (v0 : List AV) (co : AV) : AC := .ite co (zn (nth v0 0) fun cp => zf 14 cp fun cq => zs cq (I 3) fun cr => zm []) (zm [])
def a564x4 (v0 : List AV) (cj : AV) : AC := zs cj (I 4) fun ck => zn (nth v0 0) fun cl => zf 19 cl fun cm => zl cm fun cn => zc 477 [cn] fun co => .bind (a564x3 v0 co) none (fun cp => .ret (.exit 0) []) (fun cp => [])
def a564x5 (v0 : List AV) (cd : AV) : AC := zc 237 [(nth v0 1), cd] fun ce => zn (nth v0 0) fun cf => zf 19 cf fun cg => zs cg ce fun ch => zn (nth v0 0) fun ci => zf 14 ci fun cj => (a564x4 v0 cj)
def a564x6 (v0 : List AV) (bk c7 : AV) : AC := .op (.load 13 true c7) fun c8 => zn (nth v0 0) fun c9 => zf 15 c9 fun ca => zf 0 ca fun cb => zl cb fun cc => zc 445 [c8, bk, cc] fun cd => (a564x5 v0 cd)
def a564x7 (v0 : List AV) (bk c1 : AV) : AC := zl c1 fun c2 => zn (nth v0 0) fun c3 => zf 21 c3 fun c4 => zs c4 c2 fun c5 => zn (nth v0 0) fun c6 => zf 0 c6 fun c7 => (a564x6 v0 bk c7)
def a564x8 (v0 : List AV) (cc : AV) : AC := zc 476 [cc, (B false)] fun cd => zn (nth v0 0) fun ce => zf 15 ce fun cf => zf 3 cf fun cg => zs cg cd fun ch => zm []
def a564x9 (v0 : List AV) (c8 : AV) : AC := .op (.un .not c8) fun c9 => .ite c9 (zc 486 [(nth v0 0)] fun ca => .ret (.exit 0) []) (zn (nth v0 0) fun ca => zf 19 ca fun cb => zl cb fun cc => (a564x8 v0 cc))
def a564x10 (v0 : List AV) (bf c2 c3 : AV) : AC := zn (nth v0 0) fun c4 => zf 19 c4 fun c5 => zl c5 fun c6 => zc 476 [c6, (B false)] fun c7 => .chk (.load 1 false c2) c3 (zc 388 [(nth v0 1), bf, c3, c7] fun c8 => (a564x9 v0 c8))
def a564x11 (v0 : List AV) : AC := zc 569 [(nth v0 0)] fun ch => .ret (.exit 0) []
def a564x12 (cn cy : AV) : AC := zs cy cn fun cz => zm []
def a564x13 (v0 : List AV) (ck cn cs : AV) : AC := zf 15 cs fun ct => zf 2 ct fun cu => zs cu ck fun cv => zn (nth v0 0) fun cw => zf 15 cw fun cx => zf 3 cx fun cy => (a564x12 cn cy)
def a564x14 (v0 : List AV) (bk ck cm : AV) : AC := zl cm fun cn => zn (nth v0 0) fun co => zf 15 co fun cp => zf 1 cp fun cq => zs cq bk fun cr => zn (nth v0 0) fun cs => (a564x13 v0 ck cn cs)
def a564x15 (v0 : List AV) (bk : AV) : AC := zn (nth v0 0) fun ch => zf 15 ch fun ci => zf 3 ci fun cj => zl cj fun ck => zn (nth v0 0) fun cl => zf 19 cl fun cm => (a564x14 v0 bk ck cm)
def a564x16 (v0 : List AV) (bk ca cc cd : AV) : AC := zc 83 [ca, bk, (I 0)] fun ce => .chk (.load 1 false cc) cd (zc 237 [(nth v0 1), ce] fun cf => .chk (.load 1 false cc) cd (zb .geq cf cd fun cg => .ite cg (a564x11 v0) (a564x15 v0 bk)))
def a564x17 (v0 : List AV) (bk : AV) : AC := zn (nth v0 0) fun c8 => zf 0 c8 fun c9 => .op (.load 13 true c9) fun ca => zn (nth v0 0) fun cb => zf 13 cb fun cc => zl cc fun cd => (a564x16 v0 bk ca cc cd)
def a564x18 (v0 : List AV) (bk c1 : AV) : AC := zf 15 c1 fun c2 => zf 3 c2 fun c3 => zl c3 fun c4 => zn (nth v0 0) fun c5 => zf 21 c5 fun c6 => zs c6 c4 fun c7 => (a564x17 v0 bk)
def a564x19 (c1 : AV) : AC := zf 14 c1 fun c2 => zs c2 (I 1) fun c3 => .ret (.exit 1) []
def a564x20 (v0 : List AV) (bf bk bv bz : AV) : AC := .ite bz (zn (nth v0 0) fun c0 => zf 15 c0 fun c1 => zf 3 c1 fun c2 => zl c2 fun c3 => (a564x10 v0 bf c2 c3)) (zb .eql bv (I 4) fun c0 => .ite c0 (zn (nth v0 0) fun c1 => (a564x18 v0 bk c1)) (zn (nth v0 0) fun c1 => (a564x19 c1)))
def a564x21 (v0 : List AV) (bf bk bv : AV) : AC := zb .eql bv (I 2) fun bx => .ite bx (zn (nth v0 0) fun bz => zf 15 bz fun c0 => zf 3 c0 fun c1 => (a564x7 v0 bk c1)) (zb .eql bv (I 3) fun bz => .bind (a564x20 v0 bf bk bv bz) none (fun c0 => zm []) (fun c0 => []))
def a564x22 (v0 : List AV) (bf bk bv : AV) : AC := zb .eql bv (I 1) fun bw => .bind (.ite bw (a564x2 v0 bf) (a564x21 v0 bf bk bv)) none (fun bx => zm []) (fun bx => [])
def a564x23 (v0 : List AV) : AC := zc 570 [(nth v0 0)] fun bx => .ret (.exit 0) []
def a564x24 (v0 : List AV) (bf bk : AV) : AC := zn (nth v0 0) fun bt => zf 14 bt fun bu => zl bu fun bv => .bind (a564x22 v0 bf bk bv) (some 2) (fun bw => (a564x23 v0)) (fun bw => [])
def a564x25 (v0 : List AV) (bf bk : AV) : AC := .loop [] (fun bs => .bind (a564x24 v0 bf bk) (some 1) (fun bt => zm []) (fun bt => [])) (fun bs => [])
def a564x26 (v0 : List AV) : AC := zn (nth v0 0) fun bt => zf 14 bt fun bu => zl bu fun bv => zb .eql bv (I 9) fun bw => zr [bw]
def a564x27 (v0 : List AV) (bf bk bo : AV) : AC := zn (nth v0 0) fun bp => zf 21 bp fun bq => zs bq bo fun br => .bind (a564x25 v0 bf bk) (some 0) (fun bs => (a564x26 v0)) (fun bs => [(B false)])
def a564x28 (v0 : List AV) (bf bi : AV) : AC := zl bi fun bj => zc 568 [(nth v0 0), bj] fun bk => zn (nth v0 0) fun bl => zf 15 bl fun bm => zf 2 bm fun bn => zl bn fun bo => (a564x27 v0 bf bk bo)
def a564x29 (v0 : List AV) (b6 ba bc : AV) : AC := zf 0 bc fun bd => zl bd fun be => zc 445 [b6, ba, be] fun bf => zn (nth v0 0) fun bg => zf 15 bg fun bh => zf 3 bh fun bi => (a564x28 v0 bf bi)
def a564x30 (v0 : List AV) (b6 : AV) : AC := zn (nth v0 0) fun b7 => zf 15 b7 fun b8 => zf 1 b8 fun b9 => zl b9 fun ba => zn (nth v0 0) fun bb => zf 15 bb fun bc => (a564x29 v0 b6 ba bc)
def a564x31 (v0 : List AV) (v7 b2 : AV) : AC := zi v7 (B true) b2 fun b3 => .ite b3 (zr [(B true)]) (zn (nth v0 0) fun b4 => zf 0 b4 fun b5 => .op (.load 13 true b5) fun b6 => (a564x30 v0 b6))
def a564x32 (v0 : List AV) (v1 v6 : AV) : AC := zi v1 (B true) v6 fun v7 => zu v7 (.mv (nth v0 0)) fun v8 => zu v7 (.nilchk v8) fun v9 => zu v7 (.faddr 14 v9) fun b0 => zu v7 (.load 1 false b0) fun b1 => zu v7 (.bin .eql b1 (I 9)) fun b2 => (a564x31 v0 v7 b2)
def a564 : List AV → AC := fun v0 => .op (.eq 567 false (nth v0 0) Np) fun v1 => zu v1 (.mv (nth v0 0)) fun v2 => zu v1 (.nilchk v2) fun v3 => zu v1 (.faddr 22 v3) fun v4 => zu v1 (.load 1 false v4) fun v5 => zu v1 (.un .not v5) fun v6 => (a564x32 v0 v1 v6)
theorem e564 : denFn prog f564 [4] = a564 := by kernel_rfl
def a565 : List AV → AC := fun v0 => .op (.eq 567 false (nth v0 0) Np) fun v1 => .ite v1 (zr [(U 0)]) (zn (nth v0 0) fun v2 => zf 21 v2 fun v3 => zl v3 fun v4 => zr [v4])
theorem e565 : denFn prog f565 [2] = a565 := by kernel_rfl
def a566x0 (v5 b6 : AV) : AC := zs b6 (I 3) fun b7 => zr [v5]
def a566x1 (v5 b6 : AV) : AC := .op (.store 1 b6 (.fn (.func 571) [v5] [])) fun b7 => zr [v5]
def a566x2 (v5 v6 b2 : AV) : AC := zi v6 (B true) b2 fun b3 => .ite b3 (zn v5 fun b4 => zf 0 b4 fun b5 => zf 2 b5 fun b6 => (a566x0 v5 b6)) (zn v5 fun b4 => zf 0 b4 fun b5 => zf 0 b5 fun b6 => (a566x1 v5 b6))
def a566x3 (v0 : List AV) (v1 v5 v6 : AV) : AC := zu v6 (.mv (nth v0 1)) fun v7 => zu v6 (.faddr 0 v1) fun v8 => zu v6 (.faddr 0 v8) fun v9 => zu v6 (.faddr 2 v9) fun b0 => zu v6 (.load 1 false b0) fun b1 => zu v6 (.bin .geq v7 b1) fun b2 => (a566x2 v5 v6 b2)
def a566 : List AV → AC := fun v0 => .op (.box (nth v0 0)) fun v1 => .op (.build [Nf, (B false), (I 0)] [(1, 1, (B true))]) fun v2 => .op (.load 10 true v1) fun v3 => .op (.build [Nf, (B false), (I 0), (I 0), (I 0), (I 0), (I 0), (I 0), (I 0), (I 0), (I 0), (I 0), (I 0), (I 0), Np] [(0, 3, v2), (3, 10, v3), (13, 1, (nth v0 1))]) fun v4 => .op (.box v4) fun v5 => zb .lss (nth v0 1) (I 0) fun v6 => (a566x3 v0 v1 v5 v6)
theorem e566 : denFn prog f566 [4] = a566 := by kernel_rfl
def a567x0 (v1 v6 : AV) : AC := zi v1 (B true) v6 fun v7 => zr [v7]
def a567 : List AV → AC := fun v0 => .op (.eq 568 false (nth v0 0) Np) fun v1 => zu v1 (.mv (nth v0 0)) fun v2 => zu v1 (.nilchk v2) fun v3 => zu v1 (.faddr 0 v3) fun v4 => zu v1 (.mv (nth v0 1)) fun v5 => .gcall v1 false (zF 572) [v4, v5] fun v6 => (a567x0 v1 v6)
theorem e567 : denFn prog f567 [] = a567 := by kernel_rfl
def a568x0 (b6 : AV) : AC := zl b6 fun b7 => zr [b7]
def a568x1 (v4 v7 b2 : AV) : AC := zf 2 b2 fun b3 => zl b3 fun b4 => zb .geq v7 b4 fun b5 => .ite b5 (zr [(I (-1))]) (zf 0 v4 fun b6 => (a568x0 b6))
def a568x2 (v0 : List AV) (v4 v6 : AV) : AC := zl v6 fun v7 => zn (nth v0 0) fun v8 => zf 0 v8 fun v9 => zf 3 v9 fun b0 => zf 0 b0 fun b1 => zf 0 b1 fun b2 => (a568x1 v4 v7 b2)
def a568 : List AV → AC := fun v0 => zc 447 [(nth v0 1)] fun v1 => .op (.extract 0 v1) fun v2 => .op (.extract 1 v1) fun v3 => .op (.alloc [(I 0), (I 0)]) fun v4 => .op (.store 2 v4 v2) fun v5 => zf 0 v4 fun v6 => (a568x2 v0 v4 v6)
theorem e568 : denFn prog f568 [4] = a568 := by kernel_rfl
def a569x0 (v0 : List AV) : AC := zn (nth v0 0) fun b3 => zf 15 b3 fun b4 => zf 0 b4 fun b5 => zl b5 fun b6 => zb .sub b6 (I 1) fun b7 => zc 493 [(nth v0 0), b7] fun b8 => zr []
def a569x1 (v0 : List AV) (v3 v6 : AV) : AC := zl v6 fun v7 => zn (nth v0 0) fun v8 => zf 15 v8 fun v9 => .op (.load 4 true v9) fun b0 => .op (.saddr 4 v3 v7) fun b1 => .op (.store 4 b1 b0) fun b2 => (a569x0 v0)
def a569 : List AV → AC := fun v0 => zn (nth v0 0) fun v1 => zf 20 v1 fun v2 => zl v2 fun v3 => zn (nth v0 0) fun v4 => zf 15 v4 fun v5 => zf 0 v5 fun v6 => (a569x1 v0 v3 v6)
theorem e569 : denFn prog f569 [] = a569 := by kernel_rfl
def a570x0 (v0 : List AV) (v9 : AV) : AC := .ite v9 (zc 569 [(nth v0 0)] fun b0 => zm []) (zm [])
def a570x1 (v0 : List AV) (v6 : AV) : AC := zl v6 fun v7 => zc 568 [(nth v0 0), v7] fun v8 => zb .lss v8 (I 0) fun v9 => .bind (a570x0 v0 v9) none (fun b0 => zr []) (fun b0 => [])
def a570 : List AV → AC := fun v0 => zn (nth v0 0) fun v1 => zf 14 v1 fun v2 => zs v2 (I 2) fun v3 => zn (nth v0 0) fun v4 => zf 15 v4 fun v5 => zf 3 v5 fun v6 => (a570x1 v0 v6)
theorem e570 : denFn prog f570 [] = a570 := by kernel_rfl
def a571x0 (v0 : List AV) (b7 : AV) : AC := zn (nth v0 0) fun b8 => zf 14 b8 fun b9 => zs b9 b7 fun ba => zr [(.fn (.func 573) [(nth v0 0)] [])]
def a571x1 (v0 : List AV) (v9 b2 : AV) : AC := zn (nth v0 0) fun b3 => zf 13 b3 fun b4 => zl b4 fun b5 => zc 254 [v9, b2] fun b6 => .chk (.load 1 false b4) b5 (zc 348 [b6, b5] fun b7 => (a571x0 v0 b7))
def a571x2 (v0 : List AV) (v6 : AV) : AC := zb .and v6 (U 4294967295) fun v7 => zb .rem v7 (U 3) fun v8 => .op (.conv .i64 v8) fun v9 => zn (nth v0 0) fun b0 => zf 3 b0 fun b1 => .op (.load 10 true b1) fun b2 => (a571x1 v0 v9 b2)
def a571 : List AV → AC := fun v0 => zn (nth v0 0) fun v1 => zf 3 v1 fun v2 => zf 6 v2 fun v3 => zf 0 v3 fun v4 => zl v4 fun v5 => zc 237 [(nth v0 1), v5] fun v6 => (a571x2 v0 v6)
theorem e571 : denFn prog f571 [] = a571 := by kernel_rfl
def a572x0 (v0 : List AV) (v8 : AV) : AC := zn (nth v0 0) fun v9 => zf 0 v9 fun b0 => zs b0 v8 fun b1 => zm []
def a572x1 (v0 : List AV) (v4 : AV) : AC := .ite v4 (zn (nth v0 0) fun v5 => zf 0 v5 fun v6 => zl v6 fun v7 => .call v7 [(nth v0 1)] fun v8 => (a572x0 v0 v8)) (zm [])
def a572x2 (v0 : List AV) : AC := zn (nth v0 0) fun v6 => zf 0 v6 fun v7 => zl v7 fun v8 => .op (.eq 658 false v8 Nf) fun v9 => zr [v9]
def a572 : List AV → AC := fun v0 => zn (nth v0 0) fun v1 => zf 0 v1 fun v2 => zl v2 fun v3 => .op (.eq 658 true v3 Nf) fun v4 => .bind (a572x1 v0 v4) none (fun v5 => (a572x2 v0)) (fun v5 => [(B false)])
theorem e572 : denFn prog f572 [] = a572 := by kernel_rfl
def a573 : List AV → AC := fun v0 => zn (nth v0 0) fun v1 => zf 14 v1 fun v2 => zl v2 fun v3 => zc 450 [v3, (nth v0 1)] fun v4 => .ite v4 (zr [Nf]) (zr [(.fn (.func 573) [(nth v0 0)] [])])
theorem e573 : denFn prog f573 [4] = a573 := by kernel_rfl
def a574x0 (v0 : List AV) (v8 : AV) : AC := zn (nth v0 0) fun v9 => zf 3 v9 fun b0 => zs b0 v8 fun b1 => zn (nth v0 0) fun b2 => zf 4 b2 fun b3 => zs b3 (B true) fun b4 => zm []
def a574x1 (v0 : List AV) (v4 : AV) : AC := .ite v4 (zn (nth v0 0) fun v5 => zf 0 v5 fun v6 => zl v6 fun v7 => .call v7 [] fun v8 => (a574x0 v0 v8)) (zm [])
def a574x2 (b6 b9 : AV) : AC := .call b6 [b9] fun ba => zm [ba]
def a574x3 (v0 : List AV) : AC := zn (nth v0 0) fun b4 => zf 1 b4 fun b5 => zl b5 fun b6 => zn (nth v0 0) fun b7 => zf 3 b7 fun b8 => zl b8 fun b9 => (a574x2 b6 b9)
def a574x4 (bd be : AV) : AC := zf 3 be fun bf => zl bf fun bg => .call bd [bg] fun bh => zm []
def a574x5 (v0 : List AV) (ba : AV) : AC := .ite ba (zn (nth v0 0) fun bb => zf 2 bb fun bc => zl bc fun bd => zn (nth v0 0) fun be => (a574x4 bd be)) (zm [])
def a574x6 (v0 : List AV) (v9 : AV) (b4 : List AV) (b5 : AV) : AC := zt v9 (.nilchk b5) fun b6 => zt v9 (.faddr 2 b6) fun b7 => zt v9 (.load 1 false b7) fun b8 => zt v9 (.eq 545 true b8 Nf) fun b9 => zi v9 b9 (B false) fun ba => .bind (a574x5 v0 ba) none (fun bb => zr [v9, (nth b4 0)]) (fun bb => [(B false), (U 0)])
def a574x7 (v0 : List AV) (v9 b1 : AV) : AC := zl b1 fun b2 => .op (.eq 546 true b2 Nf) fun b3 => .bind (.ite b3 (a574x3 v0) (zm [(U 0)])) none (fun b4 => zt v9 (.mv (nth v0 0)) fun b5 => (a574x6 v0 v9 b4 b5)) (fun b4 => [(B false), (U 0)])
def a574x8 (v0 : List AV) : AC := zn (nth v0 0) fun v6 => zf 3 v6 fun v7 => zl v7 fun v8 => .call (.fn (.method "Step") [] []) [(.iface 542 v8), (nth v0 1)] fun v9 => zn (nth v0 0) fun b0 => zf 1 b0 fun b1 => (a574x7 v0 v9 b1)
def a574 : List AV → AC := fun v0 => zn (nth v0 0) fun v1 => zf 4 v1 fun v2 => zl v2 fun v3 => .op (.un .not v3) fun v4 => .bind (a574x1 v0 v4) none (fun v5 => (a574x8 v0)) (fun v5 => [(B false), (U 0)])
theorem e574 : denFn prog f574 [7] = a574 := by kernel_rfl
def a575x0 (v1 v6 : AV) : AC := zi v1 (B true) v6 fun v7 => zr [v7]
def a575 : List AV → AC := fun v0 => .op (.eq 542 false (nth v0 0) Np) fun v1 => zu v1 (.mv (nth v0 0)) fun v2 => zu v1 (.nilchk v2) fun v3 => zu v1 (.faddr 0 v3) fun v4 => zu v1 (.mv (nth v0 1)) fun v5 => .gcall v1 false (zF 489) [v4, v5] fun v6 => (a575x0 v1 v6)
theorem e575 : denFn prog f575 [] = a575 := by kernel_rfl
def a576x0 (v0 : List AV) (v8 : AV) : AC := zn (nth v0 0) fun v9 => zf 3 v9 fun b0 => zs b0 v8 fun b1 => zn (nth v0 0) fun b2 => zf 4 b2 fun b3 => zs b3 (B true) fun b4 => zm []
def a576x1 (v0 : List AV) (v4 : AV) : AC := .ite v4 (zn (nth v0 0) fun v5 => zf 0 v5 fun v6 => zl v6 fun v7 => .call v7 [] fun v8 => (a576x0 v0 v8)) (zm [])
def a576x2 (b6 b9 : AV) : AC := .call b6 [b9] fun ba => zm [ba]
def a576x3 (v0 : List AV) : AC := zn (nth v0 0) fun b4 => zf 1 b4 fun b5 => zl b5 fun b6 => zn (nth v0 0) fun b7 => zf 3 b7 fun b8 => zl b8 fun b9 => (a576x2 b6 b9)
def a576x4 (bd be : AV) : AC := zf 3 be fun bf => zl bf fun bg => .call bd [bg] fun bh => zm []
def a576x5 (v0 : List AV) (ba : AV) : AC := .ite ba (zn (nth v0 0) fun bb => zf 2 bb fun bc => zl bc fun bd => zn (nth v0 0) fun be => (a576x4 bd be)) (zm [])
def a576x6 (v0 : List AV) (v9 : AV) (b4 : List AV) (b5 : AV) : AC := zt v9 (.nilchk b5) fun b6 => zt v9 (.faddr 2 b6) fun b7 => zt v9 (.load 1 false b7) fun b8 => zt v9 (.eq 553 true b8 Nf) fun b9 => zi v9 b9 (B false) fun ba => .bind (a576x5 v0 ba) none (fun bb => zr [v9, (nth b4 0)]) (fun bb => [(B false), (U 0)])
def a576x7 (v0 : List AV) (v9 b1 : AV) : AC := zl b1 fun b2 => .op (.eq 554 true b2 Nf) fun b3 => .bind (.ite b3 (a576x3 v0) (zm [(U 0)])) none (fun b4 => zt v9 (.mv (nth v0 0)) fun b5 => (a576x6 v0 v9 b4 b5)) (fun b4 => [(B false), (U 0)])
def a576x8 (v0 : List AV) : AC := zn (nth v0 0) fun v6 => zf 3 v6 fun v7 => zl v7 fun v8 => .call (.fn (.method "Step") [] []) [(.iface 550 v8), (nth v0 1)] fun v9 => zn (nth v0 0) fun b0 => zf 1 b0 fun b1 => (a576x7 v0 v9 b1)
def a576 : List AV → AC := fun v0 => zn (nth v0 0) fun v1 => zf 4 v1 fun v2 => zl v2 fun v3 => .op (.un .not v3) fun v4 => .bind (a576x1 v0 v4) none (fun v5 => (a576x8 v0)) (fun v5 => [(B false), (U 0)])
theorem e576 : denFn prog f576 [7] = a576 := by kernel_rfl
def a577x0 (v0 : List AV) (b0 : AV) : AC := .call b0 [(nth v0 0), (nth v0 1)] fun b1 => zn (nth v0 0) fun b2 => zf 8 b2 fun b3 => zl b3 fun b4 => .op (.eq 597 false b4 Nf) fun b5 => zr [b5]
def a577x1 (v0 : List AV) (v1 v6 : AV) : AC := zi v1 (B true) v6 fun v7 => .ite v7 (zr [(B true)]) (zn (nth v0 0) fun v8 => zf 8 v8 fun v9 => zl v9 fun b0 => (a577x0 v0 b0))
def a577 : List AV → AC := fun v0 => .op (.eq 550 false (nth v0 0) Np) fun v1 => zu v1 (.mv (nth v0 0)) fun v2 => zu v1 (.nilchk v2) fun v3 => zu v1 (.faddr 8 v3) fun v4 => zu v1 (.load 1 false v4) fun v5 => zu v1 (.eq 597 false v5 Nf) fun v6 => (a577x1 v0 v1 v6)
theorem e577 : denFn prog f577 [4] = a577 := by kernel_rfl
def a578x0 (v0 : List AV) (v8 : AV) : AC := zn (nth v0 0) fun v9 => zf 3 v9 fun b0 => zs b0 v8 fun b1 => zn (nth v0 0) fun b2 => zf 4 b2 fun b3 => zs b3 (B true) fun b4 => zm []
def a578x1 (v0 : List AV) (v4 : AV) : AC := .ite v4 (zn (nth v0 0) fun v5 => zf 0 v5 fun v6 => zl v6 fun v7 => .call v7 [] fun v8 => (a578x0 v0 v8)) (zm [])
def a578x2 (b6 b9 : AV) : AC := .call b6 [b9] fun ba => zm [ba]
def a578x3 (v0 : List AV) : AC := zn (nth v0 0) fun b4 => zf 1 b4 fun b5 => zl b5 fun b6 => zn (nth v0 0) fun b7 => zf 3 b7 fun b8 => zl b8 fun b9 => (a578x2 b6 b9)
def a578x4 (bd be : AV) : AC := zf 3 be fun bf => zl bf fun bg => .call bd [bg] fun bh => zm []
def a578x5 (v0 : List AV) (ba : AV) : AC := .ite ba (zn (nth v0 0) fun bb => zf 2 bb fun bc => zl bc fun bd => zn (nth v0 0) fun be => (a578x4 bd be)) (zm [])
def a578x6 (v0 : List AV) (v9 : AV) (b4 : List AV) (b5 : AV) : AC := zt v9 (.nilchk b5) fun b6 => zt v9 (.faddr 2 b6) fun b7 => zt v9 (.load 1 false b7) fun b8 => zt v9 (.eq 563 true b8 Nf) fun b9 => zi v9 b9 (B false) fun ba => .bind (a578x5 v0 ba) none (fun bb => zr [v9, (nth b4 0)]) (fun bb => [(B false), (U 0)])
def a578x7 (v0 : List AV) (v9 b1 : AV) : AC := zl b1 fun b2 => .op (.eq 562 true b2 Nf) fun b3 => .bind (.ite b3 (a578x3 v0) (zm [(U 0)])) none (fun b4 => zt v9 (.mv (nth v0 0)) fun b5 => (a578x6 v0 v9 b4 b5)) (fun b4 => [(B false), (U 0)])
def a578x8 (v0 : List AV) : AC := zn (nth v0 0) fun v6 => zf 3 v6 fun v7 => zl v7 fun v8 => .call (.fn (.method "Step") [] []) [(.iface 559 v8), (nth v0 1)] fun v9 => zn (nth v0 0) fun b0 => zf 1 b0 fun b1 => (a578x7 v0 v9 b1)
def a578 : List AV → AC := fun v0 => zn (nth v0 0) fun v1 => zf 4 v1 fun v2 => zl v2 fun v3 => .op (.un .not v3) fun v4 => .bind (a578x1 v0 v4) none (fun v5 => (a578x8 v0)) (fun v5 => [(B false), (U 0)])
theorem e578 : denFn prog f578 [7] = a578 := by kernel_rfl
def a579x0 (bb : AV) : AC := zf 13 bb fun bc => zs bc (I 5) fun bd => zm []
def a579x1 (v0 : List AV) (b4 b5 : AV) : AC := zf 0 b5 fun b6 => zf 17 b6 fun b7 => zf 0 b7 fun b8 => zs b8 b4 fun b9 => zn (nth v0 0) fun ba => zf 0 ba fun bb => (a579x0 bb)
def a579x2 (b6 : AV) : AC := zf 0 b6 fun b7 => zf 13 b7 fun b8 => zs b8 (I 99) fun b9 => zm []
def a579x3 (v0 : List AV) (b2 : AV) : AC := .ite b2 (zn (nth v0 0) fun b3 => zf 0 b3 fun b4 => zc 582 [b4, (nth v0 1)] fun b5 => zn (nth v0 0) fun b6 => (a579x2 b6)) (zn (nth v0 0) fun b3 => zf 0 b3 fun b4 => zc 581 [b4, (nth v0 1)] fun b5 => zm [])
def a579x4 (v0 : List AV) (b0 b1 : AV) : AC := .ite b1 (zn (nth v0 0) fun b2 => zf 0 b2 fun b3 => zc 583 [b3, (nth v0 1), (I 0)] fun b4 => zn (nth v0 0) fun b5 => (a579x1 v0 b4 b5)) (zb .eql b0 (I 5) fun b2 => .bind (a579x3 v0 b2) none (fun b3 => zm []) (fun b3 => []))
def a579x5 (b4 : AV) : AC := zl b4 fun b5 => zb .eql b5 (I 99) fun b6 => zr [b6]
def a579x6 (v0 : List AV) (b0 : AV) : AC := .bind (zb .eql b0 (I 4) fun b1 => .bind (a579x4 v0 b0 b1) none (fun b2 => zm []) (fun b2 => [])) (some 0) (fun b1 => zn (nth v0 0) fun b2 => zf 0 b2 fun b3 => zf 13 b3 fun b4 => (a579x5 b4)) (fun b1 => [(B false)])
def a579x7 (v0 : List AV) (v6 : AV) : AC := .ite v6 (zr [(B true)]) (zn (nth v0 0) fun v7 => zf 0 v7 fun v8 => zf 13 v8 fun v9 => zl v9 fun b0 => (a579x6 v0 b0))
def a579 : List AV → AC := fun v0 => .op (.eq 559 false (nth v0 0) Np) fun v1 => zu v1 (.mv (nth v0 0)) fun v2 => zu v1 (.nilchk v2) fun v3 => zu v1 (.faddr 0 v3) fun v4 => .gcall v1 false (zF 580) [v4] fun v5 => zi v1 (B true) v5 fun v6 => (a579x7 v0 v6)
theorem e579 : denFn prog f579 [4] = a579 := by kernel_rfl
def a580x0 (v4 v6 : AV) : AC := zu v4 (.faddr 13 v6) fun v7 => zu v4 (.load 1 false v7) fun v8 => zu v4 (.bin .eql v8 (I 99)) fun v9 => zi v4 (B true) v9 fun b0 => zr [b0]
def a580 : List AV → AC := fun v0 => zn (nth v0 0) fun v1 => zf 20 v1 fun v2 => zl v2 fun v3 => .op (.un .not v3) fun v4 => zu v4 (.mv (nth v0 0)) fun v5 => zu v4 (.nilchk v5) fun v6 => (a580x0 v4 v6)
theorem e580 : denFn prog f580 [] = a580 := by kernel_rfl
def a581x0 (c8 : AV) : AC := zf 21 c8 fun c9 => zs c9 (I 15) fun ca => zm []
def a581x1 (v0 : List AV) (c4 : AV) : AC := .ite c4 (zn (nth v0 0) fun c5 => zf 13 c5 fun c6 => zs c6 (I 99) fun c7 => zn (nth v0 0) fun c8 => (a581x0 c8)) (zm [])
def a581x2 (v0 : List AV) (bp bt c1 : AV) : AC := zu bp (.load 1 false c1) fun c2 => zu bp (.bin .geq bt c2) fun c3 => zi bp (B true) c3 fun c4 => .bind (a581x1 v0 c4) none (fun c5 => zm []) (fun c5 => [])
def a581x3 (v0 : List AV) (bp bt bu : AV) : AC := zu bp (.nilchk bu) fun bv => zu bp (.faddr 0 bv) fun bw => zu bp (.faddr 3 bw) fun bx => zu bp (.faddr 0 bx) fun bz => zu bp (.faddr 0 bz) fun c0 => zu bp (.faddr 2 c0) fun c1 => (a581x2 v0 bp bt c1)
def a581x4 (v0 : List AV) (bo : AV) : AC := zb .lss bo (I 0) fun bp => zu bp (.mv (nth v0 0)) fun bq => zu bp (.nilchk bq) fun br => zu bp (.faddr 15 br) fun bs => zu bp (.load 1 false bs) fun bt => zu bp (.mv (nth v0 0)) fun bu => (a581x3 v0 bp bt bu)
def a581x5 (v0 : List AV) : AC := zn (nth v0 0) fun bj => zf 13 bj fun bk => zs bk (I 2) fun bl => zn (nth v0 0) fun bm => zf 15 bm fun bn => zl bn fun bo => (a581x4 v0 bo)
def a581x6 (v0 : List AV) (ba bc : AV) : AC := .op (.store 2 bc ba) fun bd => zf 0 bc fun be => zl be fun bf => zn (nth v0 0) fun bg => zf 15 bg fun bh => zs bh bf fun bi => (a581x5 v0)
def a581x7 (v0 : List AV) (b6 : AV) : AC := zf 14 b6 fun b7 => zl b7 fun b8 => zc 447 [b8] fun b9 => .op (.extract 0 b9) fun ba => .op (.extract 1 b9) fun bb => .op (.alloc [(I 0), (I 0)]) fun bc => (a581x6 v0 ba bc)
def a581x8 (v0 : List AV) (b0 : AV) : AC := zc 445 [b0, (I (-1)), (I 0)] fun b1 => zc 237 [(nth v0 1), b1] fun b2 => zn (nth v0 0) fun b3 => zf 14 b3 fun b4 => zs b4 b2 fun b5 => zn (nth v0 0) fun b6 => (a581x7 v0 b6)
def a581x9 (v0 : List AV) : AC := zn (nth v0 0) fun v5 => zf 19 v5 fun v6 => zs v6 (U 0) fun v7 => zn (nth v0 0) fun v8 => zf 0 v8 fun v9 => .op (.load 13 true v9) fun b0 => (a581x8 v0 b0)
def a581x10 (v0 : List AV) (b6 : AV) : AC := .ite b6 (zn (nth v0 0) fun b7 => zf 13 b7 fun b8 => zs b8 (I 3) fun b9 => zm []) (zm [])
def a581x11 (v0 : List AV) (b1 : AV) : AC := zs b1 (I 4) fun b2 => zn (nth v0 0) fun b3 => zf 16 b3 fun b4 => zl b4 fun b5 => zc 560 [b5] fun b6 => .bind (a581x10 v0 b6) none (fun b7 => zm []) (fun b7 => [])
def a581x12 (v0 : List AV) : AC := zc 583 [(nth v0 0), (nth v0 1), (I 4)] fun v6 => zn (nth v0 0) fun v7 => zf 16 v7 fun v8 => zs v8 v6 fun v9 => zn (nth v0 0) fun b0 => zf 13 b0 fun b1 => (a581x11 v0 b1)
def a581x13 (v0 : List AV) : AC := zn (nth v0 0) fun bc => zf 13 bc fun bd => zs bd (I 1) fun be => zm []
def a581x14 (v0 : List AV) (b2 b4 b5 b7 b8 : AV) : AC := zc 445 [b2, (I (-1)), (I 0)] fun b9 => .chk (.load 1 false b4) b5 (.chk (.load 1 false b7) b8 (zc 561 [b8, (B false)] fun ba => .chk (.load 1 false b4) b5 (zc 388 [(nth v0 1), b9, b5, ba] fun bb => (a581x13 v0))))
def a581x15 (v0 : List AV) (b2 : AV) : AC := zn (nth v0 0) fun b3 => zf 14 b3 fun b4 => zl b4 fun b5 => zn (nth v0 0) fun b6 => zf 16 b6 fun b7 => zl b7 fun b8 => (a581x14 v0 b2 b4 b5 b7 b8)
def a581x16 (v0 : List AV) : AC := zn (nth v0 0) fun v7 => zf 19 v7 fun v8 => zs v8 (U 0) fun v9 => zn (nth v0 0) fun b0 => zf 0 b0 fun b1 => .op (.load 13 true b1) fun b2 => (a581x15 v0 b2)
def a581x17 (v0 : List AV) (v3 : AV) : AC := zb .eql v3 (I 3) fun v6 => .bind (.ite v6 (a581x16 v0) (zm [])) none (fun v7 => zm []) (fun v7 => [])
def a581x18 (v0 : List AV) (v3 : AV) : AC := zb .eql v3 (I 2) fun v5 => .bind (.ite v5 (a581x12 v0) (a581x17 v0 v3)) none (fun v6 => zm []) (fun v6 => [])
def a581x19 (v0 : List AV) (v3 : AV) : AC := zb .eql v3 (I 1) fun v4 => .bind (.ite v4 (a581x9 v0) (a581x18 v0 v3)) none (fun v5 => zm []) (fun v5 => [])
def a581 : List AV → AC := fun v0 => zn (nth v0 0) fun v1 => zf 13 v1 fun v2 => zl v2 fun v3 => .bind (a581x19 v0 v3) (some 0) (fun v4 => zr []) (fun v4 => [])
theorem e581 : denFn prog f581 [] = a581 := by kernel_rfl
def a582x0 (v3 v6 : AV) : AC := zs v6 v3 fun v7 => zr []
def a582 : List AV → AC := fun v0 => zc 583 [(nth v0 0), (nth v0 1), (I 1)] fun v1 => zb .and v1 (U 65535) fun v2 => .op (.conv .i64 v2) fun v3 => zn (nth v0 0) fun v4 => zf 17 v4 fun v5 => zf 1 v5 fun v6 => (a582x0 v3 v6)
theorem e582 : denFn prog f582 [] = a582 := by kernel_rfl
def a583x0 (v0 : List AV) (v9 b2 : AV) : AC := zc 83 [v9, b2, (nth v0 2)] fun b3 => zc 237 [(nth v0 1), b3] fun b4 => zr [b4]
def a583x1 (v0 : List AV) : AC := zn (nth v0 0) fun v7 => zf 0 v7 fun v8 => .op (.load 13 true v8) fun v9 => zn (nth v0 0) fun b0 => zf 15 b0 fun b1 => zl b1 fun b2 => (a583x0 v0 v9 b2)
def a583 : List AV → AC := fun v0 => zn (nth v0 0) fun v1 => zf 14 v1 fun v2 => zl v2 fun v3 => zn (nth v0 0) fun v4 => zf 19 v4 fun v5 => zs v5 v3 fun v6 => (a583x1 v0)
theorem e583 : denFn prog f583 [] = a583 := by kernel_rfl
def a585x0 (v0 : List AV) (v8 : AV) : AC := zn (nth v0 0) fun v9 => zf 3 v9 fun b0 => zs b0 v8 fun b1 => zn (nth v0 0) fun b2 => zf 4 b2 fun b3 => zs b3 (B true) fun b4 => zm []
def a585x1 (v0 : List AV) (v4 : AV) : AC := .ite v4 (zn (nth v0 0) fun v5 => zf 0 v5 fun v6 => zl v6 fun v7 => .call v7 [] fun v8 => (a585x0 v0 v8)) (zm [])
def a585x2 (b6 b9 : AV) : AC := .call b6 [b9] fun ba => zm [ba]
def a585x3 (v0 : List AV) : AC := zn (nth v0 0) fun b4 => zf 1 b4 fun b5 => zl b5 fun b6 => zn (nth v0 0) fun b7 => zf 3 b7 fun b8 => zl b8 fun b9 => (a585x2 b6 b9)
def a585x4 (bd be : AV) : AC := zf 3 be fun bf => zl bf fun bg => .call bd [bg] fun bh => zm []
def a585x5 (v0 : List AV) (ba : AV) : AC := .ite ba (zn (nth v0 0) fun bb => zf 2 bb fun bc => zl bc fun bd => zn (nth v0 0) fun be => (a585x4 bd be)) (zm [])
def a585x6 (v0 : List AV) (v9 : AV) (b4 : List AV) (b5 : AV) : AC := zt v9 (.nilchk b5) fun b6 => zt v9 (.faddr 2 b6) fun b7 => zt v9 (.load 1 false b7) fun b8 => zt v9 (.eq 582 true b8 Nf) fun b9 => zi v9 b9 (B false) fun ba => .bind (a585x5 v0 ba) none (fun bb => zr [v9, (nth b4 0)]) (fun bb => [(B false), (U 0)])
def a585x7 (v0 : List AV) (v9 b1 : AV) : AC := zl b1 fun b2 => .op (.eq 581 true b2 Nf) fun b3 => .bind (.ite b3 (a585x3 v0) (zm [(U 0)])) none (fun b4 => zt v9 (.mv (nth v0 0)) fun b5 => (a585x6 v0 v9 b4 b5)) (fun b4 => [(B false), (U 0)])
def a585x8 (v0 : List AV) : AC := zn (nth v0 0) fun v6 => zf 3 v6 fun v7 => zl v7 fun v8 => .call (.fn (.method "Step") [] []) [(.iface 578 v8), (nth v0 1)] fun v9 => zn (nth v0 0) fun b0 => zf 1 b0 fun b1 => (a585x7 v0 v9 b1)
def a585 : List AV → AC := fun v0 => zn (nth v0 0) fun v1 => zf 4 v1 fun v2 => zl v2 fun v3 => .op (.un .not v3) fun v4 => .bind (a585x1 v0 v4) none (fun v5 => (a585x8 v0)) (fun v5 => [(B false), (U 0)])
theorem e585 : denFn prog f585 [7] = a585 := by kernel_rfl
def a587x0 (v1 v6 : AV) : AC := zi v1 (B true) v6 fun v7 => zr [v7]
def a587 : List AV → AC := fun v0 => .op (.eq 578 false (nth v0 0) Np) fun v1 => zu v1 (.mv (nth v0 0)) fun v2 => zu v1 (.nilchk v2) fun v3 => zu v1 (.faddr 0 v3) fun v4 => zu v1 (.mv (nth v0 1)) fun v5 => .gcall v1 false (zF 489) [v4, v5] fun v6 => (a587x0 v1 v6)
theorem e587 : denFn prog f587 [] = a587 := by kernel_rfl
def a588x0 (v0 : List AV) (v8 : AV) : AC := zn (nth v0 0) fun v9 => zf 3 v9 fun b0 => zs b0 v8 fun b1 => zn (nth v0 0) fun b2 => zf 4 b2 fun b3 => zs b3 (B true) fun b4 => zm []
def a588x1 (v0 : List AV) (v4 : AV) : AC := .ite v4 (zn (nth v0 0) fun v5 => zf 0 v5 fun v6 => zl v6 fun v7 => .call v7 [] fun v8 => (a588x0 v0 v8)) (zm [])
def a588x2 (b6 b9 : AV) : AC := .call b6 [b9] fun ba => zm [ba]
def a588x3 (v0 : List AV) : AC := zn (nth v0 0) fun b4 => zf 1 b4 fun b5 => zl b5 fun b6 => zn (nth v0 0) fun b7 => zf 3 b7 fun b8 => zl b8 fun b9 => (a588x2 b6 b9)
def a588x4 (bd be : AV) : AC := zf 3 be fun bf => zl bf fun bg => .call bd [bg] fun bh => zm []
def a588x5 (v0 : List AV) (ba : AV) : AC := .ite ba (zn (nth v0 0) fun bb => zf 2 bb fun bc => zl bc fun bd => zn (nth v0 0) fun be => (a588x4 bd be)) (zm [])
def a588x6 (v0 : List AV) (v9 : AV) (b4 : List AV) (b5 : AV) : AC := zt v9 (.nilchk b5) fun b6 => zt v9 (.faddr 2 b6) fun b7 => zt v9 (.load 1 false b7) fun b8 => zt v9 (.eq 621 true b8 Nf) fun b9 => zi v9 b9 (B false) fun ba => .bind (a588x5 v0 ba) none (fun bb => zr [v9, (nth b4 0)]) (fun bb => [(B false), (U 0)])
def a588x7 (v0 : List AV) (v9 b1 : AV) : AC := zl b1 fun b2 => .op (.eq 620 true b2 Nf) fun b3 => .bind (.ite b3 (a588x3 v0) (zm [(U 0)])) none (fun b4 => zt v9 (.mv (nth v0 0)) fun b5 => (a588x6 v0 v9 b4 b5)) (fun b4 => [(B false), (U 0)])
def a588x8 (v0 : List AV) : AC := zn (nth v0 0) fun v6 => zf 3 v6 fun v7 => zl v7 fun v8 => .call (.fn (.method "Step") [] []) [(.iface 617 v8), (nth v0 1)] fun v9 => zn (nth v0 0) fun b0 => zf 1 b0 fun b1 => (a588x7 v0 v9 b1)
def a588 : List AV → AC := fun v0 => zn (nth v0 0) fun v1 => zf 4 v1 fun v2 => zl v2 fun v3 => .op (.un .not v3) fun v4 => .bind (a588x1 v0 v4) none (fun v5 => (a588x8 v0)) (fun v5 => [(B false), (U 0)])
theorem e588 : denFn prog f588 [7] = a588 := by kernel_rfl
def a589x0 (v0 : List AV) (v7 : AV) : AC := .call v7 [(nth v0 1)] fun b2 => .ret (.exit 0) []
def a589x1 (v0 : List AV) (v4 : AV) (v5 : List AV) : AC := .op (.aidx 4 1 false v4 (nth v5 0)) fun v7 => zn (nth v0 0) fun v8 => zf 6 v8 fun v9 => zl v9 fun b0 => zb .eql (nth v5 0) b0 fun b1 => .ite b1 (a589x0 v0 v7) (zm [])
def a589x2 (v5 : List AV) : AC := zb .add (nth v5 0) (I 1) fun v8 => zm [v8]
def a589x3 (v0 : List AV) (v4 : AV) (v5 : List AV) : AC := zb .lss (nth v5 0) (I 4) fun v6 => .ite v6 (.bind (a589x1 v0 v4 v5) (some 1) (fun v7 => (a589x2 v5)) (fun v7 => [(nth v5 0)])) (.ret (.exit 0) [(nth v5 0)])
def a589x4 (v0 : List AV) (v8 : AV) : AC := zb .add v8 (I 1) fun v9 => zn (nth v0 0) fun b0 => zf 6 b0 fun b1 => zs b1 v9 fun b2 => zc 590 [(nth v0 0)] fun b3 => zr [b3]
def a589x5 (v0 : List AV) (v4 : AV) : AC := .bind (.loop [(I 0)] (fun v5 => (a589x3 v0 v4 v5)) (fun v5 => [(nth v5 0)])) (some 0) (fun v5 => zn (nth v0 0) fun v6 => zf 6 v6 fun v7 => zl v7 fun v8 => (a589x4 v0 v8)) (fun v5 => [(B false)])
def a589 : List AV → AC := fun v0 => zc 590 [(nth v0 0)] fun v1 => .ite v1 (zr [(B true)]) (zn (nth v0 0) fun v2 => zf 2 v2 fun v3 => .op (.load 4 true v3) fun v4 => (a589x5 v0 v4))
theorem e589 : denFn prog f589 [4, 13] = a589 := by kernel_rfl
def a590x0 (v7 b2 : AV) : AC := zi v7 (B true) b2 fun b3 => zr [b3]
def a590x1 (v0 : List AV) (v1 v6 : AV) : AC := zi v1 (B true) v6 fun v7 => zu v7 (.mv (nth v0 0)) fun v8 => zu v7 (.nilchk v8) fun v9 => zu v7 (.faddr 6 v9) fun b0 => zu v7 (.load 1 false b0) fun b1 => zu v7 (.bin .eql b1 (I 4)) fun b2 => (a590x0 v7 b2)
def a590 : List AV → AC := fun v0 => .op (.eq 617 false (nth v0 0) Np) fun v1 => zu v1 (.mv (nth v0 0)) fun v2 => zu v1 (.nilchk v2) fun v3 => zu v1 (.faddr 0 v3) fun v4 => zu v1 (.load 1 false v4) fun v5 => zu v1 (.un .not v5) fun v6 => (a590x1 v0 v1 v6)
theorem e590 : denFn prog f590 [] = a590 := by kernel_rfl
def a591x0 (v0 : List AV) (v8 : AV) : AC := zn (nth v0 0) fun v9 => zf 3 v9 fun b0 => zs b0 v8 fun b1 => zn (nth v0 0) fun b2 => zf 4 b2 fun b3 => zs b3 (B true) fun b4 => zm []
def a591x1 (v0 : List AV) (v4 : AV) : AC := .ite v4 (zn (nth v0 0) fun v5 => zf 0 v5 fun v6 => zl v6 fun v7 => .call v7 [] fun v8 => (a591x0 v0 v8)) (zm [])
def a591x2 (b6 b9 : AV) : AC := .call b6 [b9] fun ba => zm [ba]
def a591x3 (v0 : List AV) : AC := zn (nth v0 0) fun b4 => zf 1 b4 fun b5 => zl b5 fun b6 => zn (nth v0 0) fun b7 => zf 3 b7 fun b8 => zl b8 fun b9 => (a591x2 b6 b9)
def a591x4 (bd be : AV) : AC := zf 3 be fun bf => zl bf fun bg => .call bd [bg] fun bh => zm []
def a591x5 (v0 : List AV) (ba : AV) : AC := .ite ba (zn (nth v0 0) fun bb => zf 2 bb fun bc => zl bc fun bd => zn (nth v0 0) fun be => (a591x4 bd be)) (zm [])
def a591x6 (v0 : List AV) (v9 : AV) (b4 : List AV) (b5 : AV) : AC := zt v9 (.nilchk b5) fun b6 => zt v9 (.faddr 2 b6) fun b7 => zt v9 (.load 1 false b7) fun b8 => zt v9 (.eq 629 true b8 Nf) fun b9 => zi v9 b9 (B false) fun ba => .bind (a591x5 v0 ba) none (fun bb => zr [v9, (nth b4 0)]) (fun bb => [(B false), (U 0)])
def a591x7 (v0 : List AV) (v9 b1 : AV) : AC := zl b1 fun b2 => .op (.eq 628 true b2 Nf) fun b3 => .bind (.ite b3 (a591x3 v0) (zm [(U 0)])) none (fun b4 => zt v9 (.mv (nth v0 0)) fun b5 => (a591x6 v0 v9 b4 b5)) (fun b4 => [(B false), (U 0)])
def a591x8 (v0 : List AV) : AC := zn (nth v0 0) fun v6 => zf 3 v6 fun v7 => zl v7 fun v8 => .call (.fn (.method "Step") [] []) [(.iface 625 v8), (nth v0 1)] fun v9 => zn (nth v0 0) fun b0 => zf 1 b0 fun b1 => (a591x7 v0 v9 b1)
def a591 : List AV → AC := fun v0 => zn (nth v0 0) fun v1 => zf 4 v1 fun v2 => zl v2 fun v3 => .op (.un .not v3) fun v4 => .bind (a591x1 v0 v4) none (fun v5 => (a591x8 v0)) (fun v5 => [(B false), (U 0)])
theorem e591 : denFn prog f591 [7] = a591 := by kernel_rfl
def a592x0 (bc : AV) : AC := zb .eql bc (I 0) fun bd => zr [bd]
def a592x1 (v0 : List AV) (b6 : AV) : AC := zn (nth v0 0) fun b7 => zf 19 b7 fun b8 => zs b8 b6 fun b9 => zn (nth v0 0) fun ba => zf 19 ba fun bb => zl bb fun bc => (a592x0 bc)
def a592x2 (v0 : List AV) (v9 : AV) : AC := zn (nth v0 0) fun b1 => zf 19 b1 fun b2 => zl b2 fun b3 => .op (.paddr 13 1 v9 b3) fun b4 => zl b4 fun b5 => .call b5 [(nth v0 0), (nth v0 1)] fun b6 => (a592x1 v0 b6)
def a592x3 (v0 : List AV) (v1 v6 : AV) : AC := zi v1 (B true) v6 fun v7 => .ite v7 (zr [(B true)]) (zc 593 [] fun v8 => .op (.alloc (List.replicate 13 Nf)) fun v9 => .op (.store 13 v9 v8) fun b0 => (a592x2 v0 v9))
def a592 : List AV → AC := fun v0 => .op (.eq 625 false (nth v0 0) Np) fun v1 => zu v1 (.mv (nth v0 0)) fun v2 => zu v1 (.nilchk v2) fun v3 => zu v1 (.faddr 19 v3) fun v4 => zu v1 (.load 1 false v4) fun v5 => zu v1 (.bin .eql v5 (I 0)) fun v6 => (a592x3 v0 v1 v6)
theorem e592 : denFn prog f592 [4] = a592 := by kernel_rfl
def a593 : List AV → AC := fun v0 => .fin (.op (.alloc (List.replicate 13 Nf)) fun v1 => .op (.build (List.replicate 13 Nf) [(1, 1, (zF 594)), (2, 1, (zF 595)), (3, 1, (zF 596)), (4, 1, (zF 597)), (5, 1, (zF 598)), (6, 1, (zF 599)), (7, 1, (zF 600)), (8, 1, (zF 601)), (9, 1, (zF 602)), (10, 1, (zF 603)), (11, 1, (zF 604)), (12, 1, (zF 605))]) fun v2 => .op (.store 13 v1 v2) fun v3 => zr [v1]) fun v1 => .op (.load 13 true (nth v1 0)) fun v2 => zr [v2]
theorem e593 : denFn prog f593 [] = a593 := by kernel_rfl
def a594x0 (v4 : AV) : AC := zs v4 (I 0) fun v5 => zr [(I 2)]
def a594 : List AV → AC := fun v0 => zc 606 [(nth v0 0), (nth v0 1)] fun v1 => .op (.un .not v1) fun v2 => .ite v2 (zr [(I 1)]) (zn (nth v0 0) fun v3 => zf 20 v3 fun v4 => (a594x0 v4))
theorem e594 : denFn prog f594 [4] = a594 := by kernel_rfl
def a595x0 (v0 b0 : List AV) (b8 bb bd be : AV) : AC := zc 445 [b8, bb, (nth b0 0)] fun bf => .chk (.load 1 false bd) be (zc 607 [be] fun bg => .op (.saddr 1 bg (nth b0 0)) fun bh => zl bh fun bi => zc 116 [(nth v0 1), bf, bi] fun bj => zm [])
def a595x1 (v0 b0 : List AV) (b8 : AV) : AC := zn (nth v0 0) fun b9 => zf 17 b9 fun ba => zl ba fun bb => zn (nth v0 0) fun bc => zf 22 bc fun bd => zl bd fun be => (a595x0 v0 b0 b8 bb bd be)
def a595x2 (v0 b0 : List AV) (b4 : AV) : AC := zb .neq (nth b0 0) b4 fun b5 => .ite b5 (.ret (.exit 1) []) (zn (nth v0 0) fun b6 => zf 0 b6 fun b7 => .op (.load 13 true b7) fun b8 => (a595x1 v0 b0 b8))
def a595x3 (v0 b0 : List AV) : AC := .bind (zn (nth v0 0) fun b2 => zf 20 b2 fun b3 => zl b3 fun b4 => (a595x2 v0 b0 b4)) (some 1) (fun b2 => zb .add (nth b0 0) (I 1) fun b3 => zm [b3]) (fun b2 => [(nth b0 0)])
def a595x4 (v0 : List AV) (v9 : AV) : AC := .loop [(I 0)] (fun b0 => zb .lss (nth b0 0) v9 fun b1 => .ite b1 (a595x3 v0 b0) (.ret (.exit 0) [(nth b0 0)])) (fun b0 => [(nth b0 0)])
def a595x5 (bg : AV) : AC := zs bg (I 0) fun bh => zr [(I 3)]
def a595x6 (v0 : List AV) (ba bc : AV) : AC := zl bc fun bd => zb .lss ba bd fun be => .ite be (zr [(I 2)]) (zn (nth v0 0) fun bf => zf 20 bf fun bg => (a595x5 bg))
def a595x7 (v0 : List AV) (b4 b6 : AV) : AC := zs b6 b4 fun b7 => zn (nth v0 0) fun b8 => zf 20 b8 fun b9 => zl b9 fun ba => zn (nth v0 0) fun bb => zf 18 bb fun bc => (a595x6 v0 ba bc)
def a595x8 (v0 : List AV) : AC := zn (nth v0 0) fun b1 => zf 20 b1 fun b2 => zl b2 fun b3 => zb .add b3 (I 1) fun b4 => zn (nth v0 0) fun b5 => zf 20 b5 fun b6 => (a595x7 v0 b4 b6)
def a595x9 (v0 : List AV) : AC := zn (nth v0 0) fun v7 => zf 18 v7 fun v8 => zl v8 fun v9 => .bind (a595x4 v0 v9) (some 0) (fun b0 => (a595x8 v0)) (fun b0 => [(I 0)])
def a595 : List AV → AC := fun v0 => zn (nth v0 0) fun v1 => zf 15 v1 fun v2 => zl v2 fun v3 => zn (nth v0 0) fun v4 => zf 24 v4 fun v5 => zs v5 v3 fun v6 => (a595x9 v0)
theorem e595 : denFn prog f595 [17, 4] = a595 := by kernel_rfl
def a596x0 (v0 : List AV) (v4 : AV) : AC := zs v4 (B true) fun v5 => zn (nth v0 0) fun v6 => zf 20 v6 fun v7 => zs v7 (I 1) fun v8 => zc 609 [(nth v0 0)] fun v9 => zr [v9]
def a596 : List AV → AC := fun v0 => zc 608 [(nth v0 0), (nth v0 1)] fun v1 => .op (.un .not v1) fun v2 => .ite v2 (zc 471 [(nth v0 0), (I 1)] fun v3 => zr [v3]) (zn (nth v0 0) fun v3 => zf 14 v3 fun v4 => (a596x0 v0 v4))
theorem e596 : denFn prog f596 [4] = a596 := by kernel_rfl
def a602 : List AV → AC := fun v0 => zc 610 [(nth v0 0), (nth v0 1), (I 0)] fun v1 => zc 477 [v1] fun v2 => .ite v2 (zc 471 [(nth v0 0), (I 10)] fun v3 => zr [v3]) (zr [(I 11)])
theorem e602 : denFn prog f602 [4] = a602 := by kernel_rfl
def a604x0 (v0 : List AV) (b9 bc : AV) : AC := zc 566 [b9, bc] fun bd => zn (nth v0 0) fun be => zf 23 be fun bf => zs bf bd fun bg => zr [(I 12)]
def a604x1 (v0 : List AV) (b6 : AV) : AC := zf 0 b6 fun b7 => zf 3 b7 fun b8 => .op (.load 10 true b8) fun b9 => zn (nth v0 0) fun ba => zf 17 ba fun bb => zl bb fun bc => (a604x0 v0 b9 bc)
def a604x2 (v0 : List AV) (v9 b2 : AV) : AC := zc 83 [v9, b2, (I 3)] fun b3 => zc 205 [(nth v0 1), b3, (U 18446744073709551615)] fun b4 => zb .neq b4 (U 0) fun b5 => .ite b5 (zr [(I 0)]) (zn (nth v0 0) fun b6 => (a604x1 v0 b6))
def a604x3 (v0 : List AV) : AC := zn (nth v0 0) fun v7 => zf 0 v7 fun v8 => .op (.load 13 true v8) fun v9 => zn (nth v0 0) fun b0 => zf 17 b0 fun b1 => zl b1 fun b2 => (a604x2 v0 v9 b2)
def a604 : List AV → AC := fun v0 => zn (nth v0 0) fun v1 => zf 15 v1 fun v2 => zl v2 fun v3 => zn (nth v0 0) fun v4 => zf 24 v4 fun v5 => zs v5 v3 fun v6 => (a604x3 v0)
theorem e604 : denFn prog f604 [4] = a604 := by kernel_rfl
def a606x0 (v0 : List AV) (v4 v6 : AV) : AC := zl v6 fun v7 => zc 565 [v7] fun v8 => zn (nth v0 0) fun v9 => zf 24 v9 fun b0 => zs b0 v8 fun b1 => zr [v4]
def a606 : List AV → AC := fun v0 => zn (nth v0 0) fun v1 => zf 22 v1 fun v2 => zl v2 fun v3 => zc 564 [v3, (nth v0 1)] fun v4 => zn (nth v0 0) fun v5 => zf 22 v5 fun v6 => (a606x0 v0 v4 v6)
theorem e606 : denFn prog f606 [] = a606 := by kernel_rfl
def a607x0 (v3 : List AV) (b0 : AV) : AC := .op (.bslice 1 1 [(U 0)] [(0, 1, b0)]) fun b1 => .op (.append 1 8 (nth v3 1) b1) fun b2 => zm [b2]
def a607x1 (v1 : AV) (v3 : List AV) : AC := .op (.saddr 4 v1 (nth v3 0)) fun v5 => .op (.load 4 true v5) fun v6 => .op (.alloc [(I 0), (I 0), (U 0), (U 0)]) fun v7 => .op (.store 4 v7 v6) fun v8 => zf 3 v7 fun v9 => zl v9 fun b0 => (a607x0 v3 b0)
def a607x2 (v3 v5 : List AV) : AC := zb .add (nth v3 0) (I 1) fun v6 => zm [v6, (nth v5 0)]
def a607x3 (v1 v2 : AV) (v3 : List AV) : AC := zb .lss (nth v3 0) v2 fun v4 => .ite v4 (.bind (a607x1 v1 v3) (some 1) (fun v5 => (a607x2 v3 v5)) (fun v5 => [(nth v3 0), (nth v5 0)])) (.ret (.exit 0) [(nth v3 0), (nth v3 1)])
def a607 : List AV → AC := fun v0 => zc 612 [(nth v0 0)] fun v1 => .op (.len false v1) fun v2 => .bind (.loop [(I 0), Ns] (fun v3 => (a607x3 v1 v2 v3)) (fun v3 => [(nth v3 0), (nth v3 1)])) (some 0) (fun v3 => zr [(nth v3 1)]) (fun v3 => [Ns])
theorem e607 : denFn prog f607 [3, 9] = a607 := by kernel_rfl
def a608x0 (v0 : List AV) (bj bk bm bn br bs : AV) : AC := .chk (.load 1 false bj) bk (.chk (.load 1 false bm) bn (.op (.saddr 1 bs bk) fun bt => zl bt fun bu => zc 388 [(nth v0 1), br, bu, bn] fun bv => zr [bv]))
def a608x1 (v0 : List AV) (b5 be bg bh bj bk bm bn bp : AV) : AC := zl bp fun bq => zc 445 [b5, bq, be] fun br => .chk (.load 1 false bg) bh (.chk (.load 1 false bj) bk (.chk (.load 1 false bm) bn (zc 607 [bh] fun bs => (a608x0 v0 bj bk bm bn br bs))))
def a608x2 (v0 : List AV) (b5 ba bb bd be bg bh bj bk bm bn bo : AV) : AC := .chk (.load 1 false ba) bb (.chk (.load 1 false bd) be (.chk (.load 1 false bg) bh (.chk (.load 1 false bj) bk (.chk (.load 1 false bm) bn (.op (.saddr 1 bo bb) fun bp => (a608x1 v0 b5 be bg bh bj bk bm bn bp))))))
def a608x3 (v0 : List AV) (b4 b5 b8 ba bb bd be bg bh bj : AV) : AC := zl bj fun bk => zn (nth v0 0) fun bl => zf 15 bl fun bm => zl bm fun bn => zc 614 [b8] fun bo => .chk (.load 13 true b4) b5 (a608x2 v0 b5 ba bb bd be bg bh bj bk bm bn bo)
def a608x4 (v0 : List AV) (b4 b5 b8 ba bb bd : AV) : AC := zl bd fun be => zn (nth v0 0) fun bf => zf 22 bf fun bg => zl bg fun bh => zn (nth v0 0) fun bi => zf 20 bi fun bj => (a608x3 v0 b4 b5 b8 ba bb bd be bg bh bj)
def a608x5 (v0 : List AV) (b4 b5 b7 : AV) : AC := zl b7 fun b8 => zn (nth v0 0) fun b9 => zf 20 b9 fun ba => zl ba fun bb => zn (nth v0 0) fun bc => zf 20 bc fun bd => (a608x4 v0 b4 b5 b8 ba bb bd)
def a608x6 (v0 : List AV) (v9 b1 : AV) : AC := zs b1 v9 fun b2 => zn (nth v0 0) fun b3 => zf 0 b3 fun b4 => .op (.load 13 true b4) fun b5 => zn (nth v0 0) fun b6 => zf 22 b6 fun b7 => (a608x5 v0 b4 b5 b7)
def a608x7 (v0 : List AV) (v3 v5 v6 : AV) : AC := zc 613 [v3] fun v7 => .chk (.load 1 false v5) v6 (.op (.saddr 1 v7 v6) fun v8 => zl v8 fun v9 => zn (nth v0 0) fun b0 => zf 24 b0 fun b1 => (a608x6 v0 v9 b1))
def a608 : List AV → AC := fun v0 => zn (nth v0 0) fun v1 => zf 22 v1 fun v2 => zl v2 fun v3 => zn (nth v0 0) fun v4 => zf 20 v4 fun v5 => zl v5 fun v6 => (a608x7 v0 v3 v5 v6)
theorem e608 : denFn prog f608 [] = a608 := by kernel_rfl
def a609x0 (v3 v6 : AV) : AC := zb .geq v3 v6 fun v7 => .ite v7 (zr [(I 9)]) (zr [(I 4)])
def a609 : List AV → AC := fun v0 => zn (nth v0 0) fun v1 => zf 20 v1 fun v2 => zl v2 fun v3 => zn (nth v0 0) fun v4 => zf 18 v4 fun v5 => zl v5 fun v6 => (a609x0 v3 v6)
theorem e609 : denFn prog f609 [2] = a609 := by kernel_rfl
def a610x0 (v0 : List AV) (v9 b2 : AV) : AC := zc 445 [v9, b2, (nth v0 2)] fun b3 => zc 237 [(nth v0 1), b3] fun b4 => zr [b4]
def a610x1 (v0 : List AV) : AC := zn (nth v0 0) fun v7 => zf 0 v7 fun v8 => .op (.load 13 true v8) fun v9 => zn (nth v0 0) fun b0 => zf 17 b0 fun b1 => zl b1 fun b2 => (a610x0 v0 v9 b2)
def a610 : List AV → AC := fun v0 => zn (nth v0 0) fun v1 => zf 15 v1 fun v2 => zl v2 fun v3 => zn (nth v0 0) fun v4 => zf 24 v4 fun v5 => zs v5 v3 fun v6 => (a610x1 v0)
theorem e610 : denFn prog f610 [] = a610 := by kernel_rfl
def a612x0 (v4 : AV) : AC := zl v4 fun v5 => zr [v5]
def a612 : List AV → AC := fun v0 => zc 615 [(nth v0 0)] fun v1 => zb .neq v1 (I 0) fun v2 => .ite v2 (zr [Ns]) (zn (nth v0 0) fun v3 => zf 20 v3 fun v4 => (a612x0 v4))
theorem e612 : denFn prog f612 [2] = a612 := by kernel_rfl
def a613x0 (v3 : List AV) (b0 : AV) : AC := .op (.bslice 1 1 [(U 0)] [(0, 1, b0)]) fun b1 => .op (.append 1 8 (nth v3 1) b1) fun b2 => zm [b2]
def a613x1 (v1 : AV) (v3 : List AV) : AC := .op (.saddr 4 v1 (nth v3 0)) fun v5 => .op (.load 4 true v5) fun v6 => .op (.alloc [(I 0), (I 0), (U 0), (U 0)]) fun v7 => .op (.store 4 v7 v6) fun v8 => zf 2 v7 fun v9 => zl v9 fun b0 => (a613x0 v3 b0)
def a613x2 (v3 v5 : List AV) : AC := zb .add (nth v3 0) (I 1) fun v6 => zm [v6, (nth v5 0)]
def a613x3 (v1 v2 : AV) (v3 : List AV) : AC := zb .lss (nth v3 0) v2 fun v4 => .ite v4 (.bind (a613x1 v1 v3) (some 1) (fun v5 => (a613x2 v3 v5)) (fun v5 => [(nth v3 0), (nth v5 0)])) (.ret (.exit 0) [(nth v3 0), (nth v3 1)])
def a613 : List AV → AC := fun v0 => zc 612 [(nth v0 0)] fun v1 => .op (.len false v1) fun v2 => .bind (.loop [(I 0), Ns] (fun v3 => (a613x3 v1 v2 v3)) (fun v3 => [(nth v3 0), (nth v3 1)])) (some 0) (fun v3 => zr [(nth v3 1)]) (fun v3 => [Ns])
theorem e613 : denFn prog f613 [3, 9] = a613 := by kernel_rfl
def a614x0 (v3 : List AV) (b0 : AV) : AC := .op (.bslice 1 1 [(I 0)] [(0, 1, b0)]) fun b1 => .op (.append 1 8 (nth v3 1) b1) fun b2 => zm [b2]
def a614x1 (v1 : AV) (v3 : List AV) : AC := .op (.saddr 4 v1 (nth v3 0)) fun v5 => .op (.load 4 true v5) fun v6 => .op (.alloc [(I 0), (I 0), (U 0), (U 0)]) fun v7 => .op (.store 4 v7 v6) fun v8 => zf 1 v7 fun v9 => zl v9 fun b0 => (a614x0 v3 b0)
def a614x2 (v3 v5 : List AV) : AC := zb .add (nth v3 0) (I 1) fun v6 => zm [v6, (nth v5 0)]
def a614x3 (v1 v2 : AV) (v3 : List AV) : AC := zb .lss (nth v3 0) v2 fun v4 => .ite v4 (.bind (a614x1 v1 v3) (some 1) (fun v5 => (a614x2 v3 v5)) (fun v5 => [(nth v3 0), (nth v5 0)])) (.ret (.exit 0) [(nth v3 0), (nth v3 1)])
def a614 : List AV → AC := fun v0 => zc 612 [(nth v0 0)] fun v1 => .op (.len false v1) fun v2 => .bind (.loop [(I 0), Ns] (fun v3 => (a614x3 v1 v2 v3)) (fun v3 => [(nth v3 0), (nth v3 1)])) (some 0) (fun v3 => zr [(nth v3 1)]) (fun v3 => [Ns])
theorem e614 : denFn prog f614 [3, 9] = a614 := by kernel_rfl
def a615x0 (v0 : List AV) : AC := zn (nth v0 0) fun v8 => zf 14 v8 fun v9 => zl v9 fun b0 => zb .neq b0 (I 9) fun b1 => .ite b1 (zr [(I 14)]) (zm [(I 0)])
def a615x1 (v0 : List AV) (v1 v3 : AV) : AC := zu v1 (.faddr 22 v3) fun v4 => zu v1 (.load 1 false v4) fun v5 => zu v1 (.un .not v5) fun v6 => zi v1 (B true) v6 fun v7 => .ite v7 (zr [(I 1)]) (a615x0 v0)
def a615 : List AV → AC := fun v0 => .bind (.op (.eq 567 false (nth v0 0) Np) fun v1 => zu v1 (.mv (nth v0 0)) fun v2 => zu v1 (.nilchk v2) fun v3 => (a615x1 v0 v1 v3)) (some 0) (fun v1 => zn (nth v0 0) fun v2 => zf 23 v2 fun v3 => zl v3 fun v4 => zr [v4]) (fun v1 => [(nth v1 0)])
theorem e615 : denFn prog f615 [2] = a615 := by kernel_rfl
end
end Tryz
end Go.Proofs
