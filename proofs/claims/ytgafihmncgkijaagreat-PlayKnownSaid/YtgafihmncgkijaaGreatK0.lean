/- The bodies of the functions of this cut, gone through ahead, and that each is its function. No condition. -/
import Derived.Test.YtgafihmncgkijaaGreatAc
import Derived.Test.YtgafihmncgkijaaGreatProg
import Derived.KernelRfl
set_option linter.unusedVariables false
set_option maxRecDepth 100000
namespace Go.Proofs
open Go.Abs
namespace Tryz
noncomputable section
abbrev zl (p : AV) (k : AV → AC) : AC := .op (.load 1 false p) k
abbrev zf (o : Nat) (p : AV) (k : AV → AC) : AC := .op (.faddr o p) k
abbrev zn (p : AV) (k : AV → AC) : AC := .op (.nilchk p) k
abbrev zF (n : Nat) : AV := .fn (.func n) [] []
abbrev zb (o : BinOp) (a b : AV) (k : AV → AC) : AC := .op (.bin o a b) k
abbrev zc (n : Nat) (l : List AV) (k : AV → AC) : AC := .call (zF n) l k
abbrev zt (g : AV) (o : AOp) (k : AV → AC) : AC := .gop g true o k
abbrev zu (g : AV) (o : AOp) (k : AV → AC) : AC := .gop g false o k
abbrev zs (a b : AV) (k : AV → AC) : AC := .op (.store 1 a b) k
abbrev zr (l : List AV) : AC := .ret .ret l
abbrev zm (l : List AV) : AC := .ret .normal l
abbrev zi (a b c : AV) (k : AV → AC) : AC := .op (.pick a b c) k
def a3x0 (cm cn co cp : AV) : AC := .gop cm true (.bslice 3 2 [(I 0), (I 0), (I 0)] [(0, 3, co), (3, 3, cp)]) fun cq => .gop cm true (.bslice 1 2 [(I 0)] [(0, 1, (I 3)), (1, 1, (I 4))]) fun cr => .gcall cm true (.fn (.func 12) [] []) [cn, cq, cr] fun cs => .op (.pick cm cs (B false)) fun ct => .ret .ret [ct]
def a3x1 (v1 ch ci cj : AV) : AC := .op (.pick ci cj (B false)) fun ck => .gop ck true (.mv ch) fun cl => .op (.pick ck cl (B false)) fun cm => .gop cm true (.mv v1) fun cn => .gop cm true (.build [(I 0), (I 0), (I 0)] [(0, 1, (I 8)), (2, 1, (I 1073741825))]) fun co => .gop cm true (.build [(I 0), (I 0), (I 0)] [(0, 1, (I 8)), (2, 1, (I 100000))]) fun cp => (a3x0 cm cn co cp)
def a3x2 (v1 ca cb cc cd : AV) : AC := .op (.build [(I 0), (I 0), (I 0)] [(0, 1, (I 3)), (1, 1, (I 2))]) fun ce => .op (.bslice 3 4 [(I 0), (I 0), (I 0)] [(0, 3, cb), (3, 3, cc), (6, 3, cd), (9, 3, ce)]) fun cf => .op (.bslice 1 4 [(I 0)] [(0, 1, (I 0)), (1, 1, (I 14)), (2, 1, (I 15)), (3, 1, (I 3))]) fun cg => .call (.fn (.func 12) [] []) [v1, cf, cg] fun ch => .call (.fn (.func 13) [] []) [] fun ci => .gop ci true (.mv ca) fun cj => (a3x1 v1 ch ci cj)
def a3x3 (v1 c7 : AV) : AC := .gop c7 true (.mv v1) fun c8 => .gcall c7 true (.fn (.func 11) [] []) [c8] fun c9 => .op (.pick c7 c9 (B false)) fun ca => .op (.build [(I 0), (I 0), (I 0)] [(0, 1, (I 3))]) fun cb => .op (.build [(I 0), (I 0), (I 0)] [(0, 1, (I 4))]) fun cc => .op (.build [(I 0), (I 0), (I 0)] [(0, 1, (I 7)), (1, 1, (I 1)), (2, 1, (I 1))]) fun cd => (a3x2 v1 ca cb cc cd)
def a3x4 (v1 bx c1 : AV) : AC := .gop bx true (.load 1 false c1) fun c2 => .gop bx true (.bin .eql c2 (I 0)) fun c3 => .op (.pick bx c3 (B false)) fun c4 => .gop c4 true (.mv v1) fun c5 => .gcall c4 true (.fn (.func 9) [] []) [c5] fun c6 => .op (.pick c4 c6 (B false)) fun c7 => (a3x3 v1 c7)
def a3x5 (v1 b9 br bu : AV) : AC := .gop br true (.load 1 false bu) fun bv => .gop br true (.bin .eql bv (I 4)) fun bw => .op (.pick br bw (B false)) fun bx => .gop bx true (.mv b9) fun bz => .gop bx true (.saddr 4 bz (I 0)) fun c0 => .gop bx true (.faddr 2 c0) fun c1 => (a3x4 v1 bx c1)
def a3x6 (v1 b9 bl bo : AV) : AC := .gop bl true (.load 1 false bo) fun bp => .gop bl true (.bin .eql bp (I 0)) fun bq => .op (.pick bl bq (B false)) fun br => .gop br true (.mv b9) fun bs => .gop br true (.saddr 4 bs (I 0)) fun bt => .gop br true (.faddr 1 bt) fun bu => (a3x5 v1 b9 br bu)
def a3x7 (v1 b9 bh bi : AV) : AC := .gop bh true (.len false bi) fun bj => .gop bh true (.bin .eql bj (I 1)) fun bk => .op (.pick bh bk (B false)) fun bl => .gop bl true (.mv b9) fun bm => .gop bl true (.saddr 4 bm (I 0)) fun bn => .gop bl true (.faddr 0 bn) fun bo => (a3x6 v1 b9 bl bo)
def a3x8 (v1 b7 b9 ba bc : AV) : AC := .op (.pick ba bc (B false)) fun bd => .gop bd true (.faddr 2 b7) fun be => .gop bd true (.load 1 false be) fun bf => .gop bd true (.bin .eql bf (I 0)) fun bg => .op (.pick bd bg (B false)) fun bh => .gop bh true (.mv b9) fun bi => (a3x7 v1 b9 bh bi)
def a3x9 (v1 b5 b6 : AV) : AC := .op (.alloc [(I 0), (B false), (I 0), (I 0), (U 0)]) fun b7 => .op (.store 5 b7 b5) fun b8 => .call (.fn (.func 8) [] []) [v1] fun b9 => .op (.bin .eql b6 (I 0)) fun ba => .gop ba true (.faddr 1 b7) fun bb => .gop ba true (.load 1 false bb) fun bc => (a3x8 v1 b7 b9 ba bc)
def a3x10 (v1 b2 : AV) : AC := .ite b2 (.ret .ret [(B false)]) (.op (.build [(I 0), (I 0), (I 0)] [(0, 1, (I 9))]) fun b3 => .call (.fn (.func 10) [] []) [v1, b3] fun b4 => .op (.extract 0 b4) fun b5 => .op (.extract 1 b4) fun b6 => (a3x9 v1 b5 b6))
def a3x11 (v1 v2 v4 v6 : AV) : AC := .gcall v2 false (.fn (.func 7) [] []) [v4, v6] fun v7 => .gop v2 false (.un .not v7) fun v8 => .op (.pick v2 (B true) v8) fun v9 => .gop v9 false (.mv v1) fun b0 => .gcall v9 false (.fn (.func 9) [] []) [b0] fun b1 => .op (.pick v9 (B true) b1) fun b2 => (a3x10 v1 b2)
def a3 : List AV → AC := fun v0 => .call (.fn (.func 6) [] []) [] fun v1 => .op (.eq 22 false v1 Np) fun v2 => .gop v2 false (.mv v1) fun v3 => .gcall v2 false (.fn (.func 8) [] []) [v3] fun v4 => .gop v2 false (.build [(I 0), (I 0), (I 0), (U 0)] [(1, 1, (I 2)), (3, 1, (U 360287970189705216))]) fun v5 => .gop v2 false (.bslice 4 1 [(I 0), (I 0), (I 0), (U 0)] [(0, 4, v5)]) fun v6 => (a3x11 v1 v2 v4 v6)
theorem e3 : denFn prog f3 [0] = a3 := by kernel_rfl
def a6x0 (v1 b3 bc : AV) : AC := zu bc (.load 5 true b3) fun bd => zu bc (.build [(I 0), (U 0)] [(1, 1, (U 360287970189705216))]) fun be => zu bc (.build [(I 0), (B false), (I 0), (I 0), (U 0)] [(0, 1, (I 9)), (1, 1, (B true)), (3, 2, be)]) fun bf => zu bc (.eq 35 true bd bf) fun bg => zi bc (B true) bg fun bh => .ite bh (zr [Np]) (zr [v1])
def a6x1 (v1 v7 b3 b5 b6 : AV) : AC := zu b5 (.bin .neq b6 (I 0)) fun b7 => zi b5 (B true) b7 fun b8 => zu b8 (.load 5 true v7) fun b9 => zu b8 (.build [(I 0), (B false), (I 0), (I 0), (U 0)] [(0, 1, (I 4))]) fun ba => zu b8 (.eq 35 true b9 ba) fun bb => zi b8 (B true) bb fun bc => (a6x0 v1 b3 bc)
def a6x2 (v1 v6 v7 b0 : AV) : AC := .op (.extract 0 b0) fun b1 => .op (.extract 1 b0) fun b2 => .op (.alloc [(I 0), (B false), (I 0), (I 0), (U 0)]) fun b3 => .op (.store 5 b3 b1) fun b4 => zb .neq v6 (I 0) fun b5 => zu b5 (.mv b2) fun b6 => (a6x1 v1 v7 b3 b5 b6)
def a6x3 (v1 v4 : AV) : AC := .op (.extract 0 v4) fun v5 => .op (.extract 1 v4) fun v6 => .op (.alloc [(I 0), (B false), (I 0), (I 0), (U 0)]) fun v7 => .op (.store 5 v7 v5) fun v8 => .op (.build [(I 0), (I 0), (I 0)] [(0, 1, (I 7)), (2, 1, (I 1000))]) fun v9 => zc 10 [v1, v9] fun b0 => (a6x2 v1 v6 v7 b0)
def a6 : List AV → AC := fun v0 => zc 30 [] fun v1 => .op (.eq 22 false v1 Np) fun v2 => .ite v2 (zr [Np]) (.op (.build [(I 0), (I 0), (I 0)] [(0, 1, (I 7)), (2, 1, (I 4))]) fun v3 => zc 10 [v1, v3] fun v4 => (a6x3 v1 v4))
theorem e6 : denFn prog f6 [0] = a6 := by kernel_rfl
def a7x0 (v0 v4 : List AV) : AC := .op (.saddr 4 (nth v0 0) (nth v4 0)) fun b0 => .op (.load 4 true b0) fun b1 => .op (.saddr 4 (nth v0 1) (nth v4 0)) fun b2 => .op (.load 4 true b2) fun b3 => .op (.eq 29 false b1 b3) fun b4 => zm [b4]
def a7x1 (v4 b0 : List AV) : AC := zb .add (nth v4 0) (I 1) fun b1 => zm [b1, (nth b0 0)]
def a7x2 (v0 v4 : List AV) (v5 v7 : AV) : AC := zt (nth v4 1) (.bin .lss v5 v7) fun v8 => zi (nth v4 1) v8 (B false) fun v9 => .ite v9 (.bind (a7x0 v0 v4) (some 1) (fun b0 => (a7x1 v4 b0)) (fun b0 => [(nth v4 0), (nth b0 0)])) (.ret (.exit 0) [(nth v4 0), (nth v4 1)])
def a7x3 (v0 : List AV) (v3 : AV) : AC := .loop [(I 0), v3] (fun v4 => zt (nth v4 1) (.mv (nth v4 0)) fun v5 => zt (nth v4 1) (.mv (nth v0 0)) fun v6 => zt (nth v4 1) (.len false v6) fun v7 => (a7x2 v0 v4 v5 v7)) (fun v4 => [(nth v4 0), (nth v4 1)])
def a7 : List AV → AC := fun v0 => .op (.len false (nth v0 0)) fun v1 => .op (.len false (nth v0 1)) fun v2 => zb .eql v1 v2 fun v3 => .bind (a7x3 v0 v3) (some 0) (fun v4 => zr [(nth v4 1)]) (fun v4 => [(B false)])
theorem e7 : denFn prog f7 [5, 6] = a7 := by kernel_rfl
def a8x0 (v0 : List AV) (v4 : AV) : AC := zn (nth v0 0) fun v5 => zf 29 v5 fun v6 => zl v6 fun v7 => zc 32 [v4, v7] fun v8 => zr [v8]
def a8 : List AV → AC := fun v0 => zc 31 [(nth v0 0)] fun v1 => .ite v1 (zr [Ns]) (zn (nth v0 0) fun v2 => zf 0 v2 fun v3 => .op (.load 29 true v3) fun v4 => (a8x0 v0 v4))
theorem e8 : denFn prog f8 [2] = a8 := by kernel_rfl
def a9x0 (v9 b8 : AV) : AC := zi v9 b8 (B false) fun b9 => zr [b9]
def a9x1 (v0 : List AV) (v9 b2 : AV) : AC := zt v9 (.load 29 true b2) fun b3 => zt v9 (.mv (nth v0 0)) fun b4 => zt v9 (.nilchk b4) fun b5 => zt v9 (.faddr 29 b5) fun b6 => zt v9 (.load 1 false b6) fun b7 => .gcall v9 true (zF 33) [b3, b7] fun b8 => (a9x0 v9 b8)
def a9x2 (v0 : List AV) (v2 v6 : AV) : AC := zt v2 (.maplen v6) fun v7 => zt v2 (.bin .eql v7 (I 0)) fun v8 => zi v2 v8 (B false) fun v9 => zt v9 (.mv (nth v0 0)) fun b0 => zt v9 (.nilchk b0) fun b1 => zt v9 (.faddr 0 b1) fun b2 => (a9x1 v0 v9 b2)
def a9 : List AV → AC := fun v0 => zc 31 [(nth v0 0)] fun v1 => .op (.un .not v1) fun v2 => zt v2 (.mv (nth v0 0)) fun v3 => zt v2 (.nilchk v3) fun v4 => zt v2 (.faddr 33 v4) fun v5 => zt v2 (.load 1 false v5) fun v6 => (a9x2 v0 v2 v6)
theorem e9 : denFn prog f9 [] = a9 := by kernel_rfl
def a10x0 (v2 b1 : AV) : AC := .op (.store 5 v2 b1) fun b2 => .ret .ret [v2, (I 2)]
def a10x1 (v2 b6 : AV) : AC := .op (.build [(I 0), (B false), (I 0), (I 0), (U 0)] []) fun b8 => .op (.store 5 v2 b8) fun b9 => .ret .ret [b6]
def a10x2 (v0 : List AV) (v1 v2 : AV) : AC := .op (.faddr 1 v1) fun b4 => .op (.load 1 false b4) fun b5 => .call (.fn (.func 34) [] []) [(nth v0 0), b5] fun b6 => .op (.bin .neq b6 (I 0)) fun b7 => .ite b7 (a10x1 v2 b6) (.ret .normal [(I 0)])
def a10x3 (v0 : List AV) (v1 v2 bb : AV) : AC := .op (.load 3 true v1) fun bc => .call bb [(nth v0 0), bc] fun bd => .op (.extract 0 bd) fun be => .op (.extract 1 bd) fun bf => .op (.store 5 v2 be) fun bg => .ret .ret [v2, bf]
def a10x4 (v0 : List AV) (v1 v2 b5 : AV) : AC := .op (.alloc [Nf, Nf, Nf, Nf, Nf, Nf, Nf, Nf, Nf, Nf]) fun b6 => .op (.store 10 b6 b5) fun b7 => .op (.faddr 0 v1) fun b8 => .op (.load 1 false b8) fun b9 => .op (.paddr 10 1 b6 b9) fun ba => .op (.load 1 false ba) fun bb => (a10x3 v0 v1 v2 bb)
def a10x5 (v0 : List AV) (v1 v2 b1 : AV) : AC := .op (.load 1 false b1) fun b2 => .op (.bin .lss b2 (I 7)) fun b3 => .bind (.ite b3 (a10x2 v0 v1 v2) (.ret .normal [(I 0)])) none (fun b4 => .call (.fn (.func 35) [] []) [] fun b5 => (a10x4 v0 v1 v2 b5)) (fun b4 => [v2, (nth b4 0)])
def a10x6 (v0 : List AV) (v1 v2 v6 v7 : AV) : AC := .gop v6 false (.load 1 false v7) fun v8 => .gop v6 false (.bin .gtr v8 (I 9)) fun v9 => .op (.pick v6 (B true) v9) fun b0 => .ite b0 (.op (.build [(I 0), (B false), (I 0), (I 0), (U 0)] []) fun b1 => (a10x0 v2 b1)) (.op (.faddr 0 v1) fun b1 => (a10x5 v0 v1 v2 b1))
def a10x7 (v0 : List AV) (v1 v2 v3 : AV) : AC := .ite v3 (.op (.build [(I 0), (B false), (I 0), (I 0), (U 0)] []) fun v4 => .op (.store 5 v2 v4) fun v5 => .ret .ret [v2, (I 1)]) (.op (.faddr 0 v1) fun v4 => .op (.load 1 false v4) fun v5 => .op (.bin .lss v5 (I 1)) fun v6 => .gop v6 false (.faddr 0 v1) fun v7 => (a10x6 v0 v1 v2 v6 v7))
def a10 : List AV → AC := fun v0 => .fin (.op (.box (nth v0 1)) fun v1 => .op (.alloc [(I 0), (B false), (I 0), (I 0), (U 0)]) fun v2 => .call (.fn (.func 31) [] []) [(nth v0 0)] fun v3 => (a10x7 v0 v1 v2 v3)) fun v1 => .op (.load 5 true (nth v1 0)) fun v2 => .ret .ret [v2, (nth v1 1)]
theorem e10 : denFn prog f10 [5] = a10 := by kernel_rfl
def a11x0 (v2 b1 : AV) : AC := zi v2 b1 (B false) fun b2 => zr [b2]
def a11x1 (v2 v3 v6 : AV) : AC := zt v2 (.faddr 23 v6) fun v7 => zt v2 (.faddr 2 v7) fun v8 => zt v2 (.load 1 false v8) fun v9 => .gcall v2 true (zF 8) [v3] fun b0 => .gchk v2 true (.load 1 false v8) v9 (.gcall v2 true (zF 36) [b0, v9] fun b1 => (a11x0 v2 b1))
def a11 : List AV → AC := fun v0 => zc 31 [(nth v0 0)] fun v1 => .op (.un .not v1) fun v2 => zt v2 (.mv (nth v0 0)) fun v3 => zt v2 (.mv (nth v0 0)) fun v4 => zt v2 (.nilchk v4) fun v5 => zt v2 (.faddr 0 v5) fun v6 => (a11x1 v2 v3 v6)
theorem e11 : denFn prog f11 [] = a11 := by kernel_rfl
def a12 : List AV → AC := fun v0 => .call (.fn (.func 24) [] []) [(nth v0 0), (nth v0 1)] fun v1 => .op (.extract 0 v1) fun v2 => .op (.extract 1 v1) fun v3 => .call (.fn (.func 37) [] []) [v3, (nth v0 2)] fun v4 => .ret .ret [v4]
theorem e12 : denFn prog f12 [] = a12 := by kernel_rfl
def a13x0 (v2 v3 v5 v6 : AV) : AC := .gcall v2 true (zF 12) [v3, v5, v6] fun v7 => zi v2 v7 (B false) fun v8 => zr [v8]
def a13 : List AV → AC := fun v0 => zc 6 [] fun v1 => .op (.eq 22 true v1 Np) fun v2 => zt v2 (.mv v1) fun v3 => zt v2 (.build [(I 0), (I 0), (I 0)] [(0, 1, (I 7)), (2, 1, (I 1))]) fun v4 => zt v2 (.bslice 3 1 [(I 0), (I 0), (I 0)] [(0, 3, v4)]) fun v5 => zt v2 (.bslice 1 1 [(I 0)] [(0, 1, (I 15))]) fun v6 => (a13x0 v2 v3 v5 v6)
theorem e13 : denFn prog f13 [] = a13 := by kernel_rfl
def a17x0 (v4 : AV) : AC := .call (.fn (.func 41) [] []) [v4] fun v5 => .ret .ret [v5]
def a17 : List AV → AC := fun v0 => .call (.fn (.func 31) [] []) [(nth v0 0)] fun v1 => .ite v1 (.ret .ret [(I 0)]) (.op (.nilchk (nth v0 0)) fun v2 => .op (.faddr 32 v2) fun v3 => .op (.load 1 false v3) fun v4 => (a17x0 v4))
theorem e17 : denFn prog f17 [2] = a17 := by kernel_rfl
def a19x0 (v4 : AV) : AC := zc 44 [v4] fun v5 => zr [v5]
def a19 : List AV → AC := fun v0 => zc 31 [(nth v0 0)] fun v1 => .ite v1 (zr [Ns]) (zn (nth v0 0) fun v2 => zf 34 v2 fun v3 => zl v3 fun v4 => (a19x0 v4))
theorem e19 : denFn prog f19 [2] = a19 := by kernel_rfl
def a23x0 (v0 v4 : List AV) : AC := .op (.saddr 2 (nth v0 0) (nth v4 0)) fun b0 => .op (.load 2 true b0) fun b1 => .op (.saddr 2 (nth v0 1) (nth v4 0)) fun b2 => .op (.load 2 true b2) fun b3 => .op (.eq 72 false b1 b3) fun b4 => zm [b4]
def a23x1 (v4 b0 : List AV) : AC := zb .add (nth v4 0) (I 1) fun b1 => zm [b1, (nth b0 0)]
def a23x2 (v0 v4 : List AV) (v5 v7 : AV) : AC := zt (nth v4 1) (.bin .lss v5 v7) fun v8 => zi (nth v4 1) v8 (B false) fun v9 => .ite v9 (.bind (a23x0 v0 v4) (some 1) (fun b0 => (a23x1 v4 b0)) (fun b0 => [(nth v4 0), (nth b0 0)])) (.ret (.exit 0) [(nth v4 0), (nth v4 1)])
def a23x3 (v0 : List AV) (v3 : AV) : AC := .loop [(I 0), v3] (fun v4 => zt (nth v4 1) (.mv (nth v4 0)) fun v5 => zt (nth v4 1) (.mv (nth v0 0)) fun v6 => zt (nth v4 1) (.len false v6) fun v7 => (a23x2 v0 v4 v5 v7)) (fun v4 => [(nth v4 0), (nth v4 1)])
def a23 : List AV → AC := fun v0 => .op (.len false (nth v0 0)) fun v1 => .op (.len false (nth v0 1)) fun v2 => zb .eql v1 v2 fun v3 => .bind (a23x3 v0 v3) (some 0) (fun v4 => zr [(nth v4 1)]) (fun v4 => [(B false)])
theorem e23 : denFn prog f23 [5, 6] = a23 := by kernel_rfl
def a24x0 (v3 : List AV) (b1 b2 b3 : AV) : AC := .op (.store 5 b3 b1) fun b4 => .op (.load 5 true b3) fun b5 => .op (.bslice 5 1 [(I 0), (B false), (I 0), (I 0), (U 0)] [(0, 5, b5)]) fun b6 => .op (.append 5 40 (nth v3 2) b6) fun b7 => .op (.bslice 1 1 [(I 0)] [(0, 1, b2)]) fun b8 => .op (.append 1 8 (nth v3 1) b8) fun b9 => .ret .normal [b9, b7]
def a24x1 (v0 v3 : List AV) (v6 v7 : AV) : AC := .op (.store 3 v7 v6) fun v8 => .op (.load 3 true v7) fun v9 => .call (.fn (.func 10) [] []) [(nth v0 0), v9] fun b0 => .op (.extract 0 b0) fun b1 => .op (.extract 1 b0) fun b2 => .op (.alloc [(I 0), (B false), (I 0), (I 0), (U 0)]) fun b3 => (a24x0 v3 b1 b2 b3)
def a24x2 (v0 v3 : List AV) : AC := .bind (.op (.saddr 3 (nth v0 1) (nth v3 0)) fun v5 => .op (.load 3 true v5) fun v6 => .op (.alloc [(I 0), (I 0), (I 0)]) fun v7 => (a24x1 v0 v3 v6 v7)) (some 1) (fun v5 => .op (.bin .add (nth v3 0) (I 1)) fun v6 => .ret .normal [v6, (nth v5 0), (nth v5 1)]) (fun v5 => [(nth v3 0), (nth v5 0), (nth v5 1)])
def a24x3 (v0 : List AV) (v2 : AV) : AC := .loop [(I 0), Ns, Ns] (fun v3 => .op (.bin .lss (nth v3 0) v2) fun v4 => .ite v4 (a24x2 v0 v3) (.ret (.exit 0) [(nth v3 0), (nth v3 1), (nth v3 2)])) (fun v3 => [(nth v3 0), (nth v3 1), (nth v3 2)])
def a24 : List AV → AC := fun v0 => .call (.fn (.func 31) [] []) [(nth v0 0)] fun v1 => .ite v1 (.ret .ret [Ns, Ns]) (.op (.len false (nth v0 1)) fun v2 => .bind (a24x3 v0 v2) (some 0) (fun v3 => .ret .ret [(nth v3 2), (nth v3 1)]) (fun v3 => [Ns, Ns]))
theorem e24 : denFn prog f24 [4, 5, 6, 7, 16] = a24 := by kernel_rfl
def a25x0 (v4 : AV) : AC := zc 47 [v4] fun v5 => zr [v5]
def a25 : List AV → AC := fun v0 => zc 31 [(nth v0 0)] fun v1 => .ite v1 (zr [Ns]) (zn (nth v0 0) fun v2 => zf 31 v2 fun v3 => zl v3 fun v4 => (a25x0 v4))
theorem e25 : denFn prog f25 [2] = a25 := by kernel_rfl
def a30x0 (v3 bv bx bz : AV) : AC := .gcall bv false (zF 52) [bx, bz] fun c0 => zu bv (.un .not c0) fun c1 => zi bv (B true) c1 fun c2 => .ite c2 (zr [Np]) (zr [v3])
def a30x1 (v3 bq bs : AV) : AC := zu bq (.len false bs) fun bt => zu bq (.bin .neq bt (I 0)) fun bu => zi bq (B true) bu fun bv => zu bv (.mv v3) fun bw => .gcall bv false (zF 25) [bw] fun bx => zu bv (.bslice 1 1 [(I 0)] [(0, 1, (I 0))]) fun bz => (a30x0 v3 bv bx bz)
def a30x2 (v3 bl bm : AV) : AC := .op (.bslice 3 2 [(I 0), (I 0), (I 0)] [(0, 3, bl), (3, 3, bm)]) fun bn => .op (.bslice 1 2 [(I 0)] [(0, 1, (I 11)), (1, 1, (I 0))]) fun bo => zc 12 [v3, bn, bo] fun bp => .op (.un .not bp) fun bq => zu bq (.mv v3) fun br => .gcall bq false (zF 19) [br] fun bs => (a30x1 v3 bq bs)
def a30x3 (v3 bd bi : AV) : AC := zu bd (.un .not bi) fun bj => zi bd (B true) bj fun bk => .ite bk (zr [Np]) (.op (.build [(I 0), (I 0), (I 0)] [(0, 1, (I 1))]) fun bl => .op (.build [(I 0), (I 0), (I 0)] [(0, 1, (I 2))]) fun bm => (a30x2 v3 bl bm))
def a30x4 (v3 b9 bc : AV) : AC := zi b9 (B true) bc fun bd => zu bd (.mv v3) fun be => .gcall bd false (zF 19) [be] fun bf => zu bd (.build [(I 0), (I 0)] [(0, 1, (I 0)), (1, 1, (I 3))]) fun bg => zu bd (.bslice 2 1 [(I 0), (I 0)] [(0, 2, bg)]) fun bh => .gcall bd false (zF 23) [bf, bh] fun bi => (a30x3 v3 bd bi)
def a30x5 (v3 b5 b6 : AV) : AC := zu b5 (.build [(I 0), (B false), (I 0), (I 0), (U 0)] [(0, 1, (I 1))]) fun b7 => zu b5 (.eq 35 true b6 b7) fun b8 => zi b5 (B true) b8 fun b9 => zu b9 (.mv v3) fun ba => .gcall b9 false (zF 17) [ba] fun bb => zu b9 (.bin .neq bb (I 3)) fun bc => (a30x4 v3 b9 bc)
def a30x6 (v3 b0 : AV) : AC := .op (.extract 0 b0) fun b1 => .op (.extract 1 b0) fun b2 => .op (.alloc [(I 0), (B false), (I 0), (I 0), (U 0)]) fun b3 => .op (.store 5 b3 b1) fun b4 => zb .neq b2 (I 0) fun b5 => zu b5 (.load 5 true b3) fun b6 => (a30x5 v3 b5 b6)
def a30x7 (v3 v5 v6 : AV) : AC := zu v5 (.eq 22 false v6 Np) fun v7 => zi v5 (B true) v7 fun v8 => .ite v8 (zr [Np]) (.op (.build [(I 0), (I 0), (I 0)] [(0, 1, (I 8)), (2, 1, (I 3))]) fun v9 => zc 10 [v3, v9] fun b0 => (a30x6 v3 b0))
def a30 : List AV → AC := fun v0 => zc 51 [] fun v1 => zc 39 [v1, Ns] fun v2 => .op (.extract 0 v2) fun v3 => .op (.extract 1 v2) fun v4 => zb .neq v4 (I 0) fun v5 => zu v5 (.mv v3) fun v6 => (a30x7 v3 v5 v6)
theorem e30 : denFn prog f30 [0] = a30 := by kernel_rfl
def a31x0 (v1 v6 : AV) : AC := .op (.pick v1 (B true) v6) fun v7 => .ret .ret [v7]
def a31 : List AV → AC := fun v0 => .op (.eq 22 false (nth v0 0) Np) fun v1 => .gop v1 false (.mv (nth v0 0)) fun v2 => .gop v1 false (.nilchk v2) fun v3 => .gop v1 false (.faddr 29 v3) fun v4 => .gop v1 false (.load 1 false v4) fun v5 => .gop v1 false (.eq 85 false v5 Np) fun v6 => (a31x0 v1 v6)
theorem e31 : denFn prog f31 [] = a31 := by kernel_rfl
def a32x0 (v5 bb bg : AV) : AC := .op (.saddr 1 v5 bg) fun bj => zl bj fun bk => zf 3 bb fun bl => zs bl bk fun bm => zm []
def a32x1 (b0 : List AV) (bk : AV) : AC := .op (.bslice 4 1 [(I 0), (I 0), (I 0), (U 0)] [(0, 4, bk)]) fun bl => .op (.append 4 32 (nth b0 1) bl) fun bm => zm [bm]
def a32x2 (v5 : AV) (b0 : List AV) (bb bg : AV) : AC := .op (.len false v5) fun bh => zb .lss bg bh fun bi => .bind (.ite bi (a32x0 v5 bb bg) (zm [])) none (fun bj => .op (.load 4 true bb) fun bk => (a32x1 b0 bk)) (fun bj => [(nth b0 1)])
def a32x3 (v1 v5 : AV) (b0 : List AV) (ba : AV) : AC := .op (.alloc [(I 0), (I 0), (I 0), (U 0)]) fun bb => .op (.store 4 bb ba) fun bc => zf 15 v1 fun bd => zf 1 bd fun be => zl be fun bf => zb .add bf (nth b0 0) fun bg => (a32x2 v5 b0 bb bg)
def a32x4 (v1 v5 : AV) (b0 : List AV) (b3 b4 : AV) : AC := .op (.store 3 b4 b3) fun b5 => zf 0 b4 fun b6 => zl b6 fun b7 => zf 1 b4 fun b8 => zl b8 fun b9 => .op (.build [(I 0), (I 0), (I 0), (U 0)] [(0, 1, (nth b0 0)), (1, 1, b7), (2, 1, b9)]) fun ba => (a32x3 v1 v5 b0 ba)
def a32x5 (v1 v5 v8 : AV) (b0 : List AV) : AC := .bind (.op (.saddr 3 v8 (nth b0 0)) fun b2 => .op (.load 3 true b2) fun b3 => .op (.alloc [(I 0), (I 0), (I 0)]) fun b4 => (a32x4 v1 v5 b0 b3 b4)) (some 1) (fun b2 => zb .add (nth b0 0) (I 1) fun b3 => zm [b3, (nth b2 0)]) (fun b2 => [(nth b0 0), (nth b2 0)])
def a32x6 (v1 v5 v8 v9 : AV) : AC := .loop [(I 0), Ns] (fun b0 => zb .lss (nth b0 0) v9 fun b1 => .ite b1 (a32x5 v1 v5 v8 b0) (.ret (.exit 0) [(nth b0 0), (nth b0 1)])) (fun b0 => [(nth b0 0), (nth b0 1)])
def a32x7 (b0 : List AV) : AC := zc 56 [(nth b0 1)] fun b1 => zr [b1]
def a32x8 (v0 : List AV) (v1 : AV) : AC := zc 54 [(nth v0 1)] fun v5 => zf 15 v1 fun v6 => .op (.load 5 true v6) fun v7 => zc 55 [v7, (nth v0 1)] fun v8 => .op (.len false v8) fun v9 => .bind (a32x6 v1 v5 v8 v9) (some 0) (fun b0 => (a32x7 b0)) (fun b0 => [Ns])
def a32 : List AV → AC := fun v0 => .op (.box (nth v0 0)) fun v1 => .op (.load 29 true v1) fun v2 => zc 53 [v2] fun v3 => .op (.un .not v3) fun v4 => .ite v4 (zr [Ns]) (a32x8 v0 v1)
theorem e32 : denFn prog f32 [4, 6, 21] = a32 := by kernel_rfl
def a33x0 (v7 : AV) (v9 : List AV) : AC := .bind (.op (.saddr 1 v7 (nth v9 0)) fun b1 => zl b1 fun b2 => .ite b2 (zr [(B false)]) (zm [(nth v9 1)])) (some 1) (fun b1 => zb .add (nth v9 0) (I 1) fun b2 => zm [b2, (nth b1 0)]) (fun b1 => [(nth v9 0), (nth b1 0)])
def a33x1 (v7 v8 : AV) : AC := .loop [(I 0), (B false)] (fun v9 => zb .lss (nth v9 0) v8 fun b0 => .ite b0 (a33x0 v7 v9) (.ret (.exit 0) [(nth v9 0), (nth v9 1)])) (fun v9 => [(nth v9 0), (nth v9 1)])
def a33x2 (v0 : List AV) (v1 : AV) : AC := zf 20 v1 fun b0 => .op (.load 3 true b0) fun b1 => zc 58 [b1, (nth v0 1)] fun b2 => zr [b2]
def a33x3 (v0 : List AV) (v1 : AV) : AC := zf 23 v1 fun v5 => .op (.load 3 true v5) fun v6 => zc 57 [v6, (nth v0 1)] fun v7 => .op (.len false v7) fun v8 => .bind (a33x1 v7 v8) (some 0) (fun v9 => (a33x2 v0 v1)) (fun v9 => [(nth v9 1)])
def a33 : List AV → AC := fun v0 => .op (.box (nth v0 0)) fun v1 => .op (.load 29 true v1) fun v2 => zc 53 [v2] fun v3 => .op (.un .not v3) fun v4 => .ite v4 (zr [(B false)]) (a33x3 v0 v1)
theorem e33 : denFn prog f33 [4, 15] = a33 := by kernel_rfl
def a34x0 (b6 : AV) : AC := .ite b6 (zr [(I 14)]) (zr [(I 0)])
def a34x1 (v0 : List AV) : AC := zn (nth v0 0) fun b1 => zf 33 b1 fun b2 => zl b2 fun b3 => .op (.lookup 3 true Np b3 (nth v0 1)) fun b4 => .op (.extract 0 b4) fun b5 => .op (.extract 1 b4) fun b6 => (a34x0 b6)
def a34x2 (v0 : List AV) (v1 v2 v6 : AV) : AC := zu v1 (.faddr 2 v6) fun v7 => zu v1 (.load 1 false v7) fun v8 => zu v1 (.bin .geq v2 v8) fun v9 => zi v1 (B true) v9 fun b0 => .ite b0 (zr [(I 3)]) (a34x1 v0)
def a34 : List AV → AC := fun v0 => zb .lss (nth v0 1) (I 0) fun v1 => zu v1 (.mv (nth v0 1)) fun v2 => zu v1 (.mv (nth v0 0)) fun v3 => zu v1 (.nilchk v3) fun v4 => zu v1 (.faddr 0 v4) fun v5 => zu v1 (.faddr 23 v5) fun v6 => (a34x2 v0 v1 v2 v6)
theorem e34 : denFn prog f34 [4] = a34 := by kernel_rfl
def a35 : List AV → AC := fun v0 => .fin (.op (.alloc [Nf, Nf, Nf, Nf, Nf, Nf, Nf, Nf, Nf, Nf]) fun v1 => .op (.build [Nf, Nf, Nf, Nf, Nf, Nf, Nf, Nf, Nf, Nf] [(1, 1, (.fn (.func 59) [] [])), (2, 1, (.fn (.func 60) [] [])), (3, 1, (.fn (.func 61) [] [])), (4, 1, (.fn (.func 62) [] [])), (5, 1, (.fn (.func 63) [] [])), (6, 1, (.fn (.func 64) [] [])), (7, 1, (.fn (.func 65) [] [])), (8, 1, (.fn (.func 66) [] [])), (9, 1, (.fn (.func 67) [] []))]) fun v2 => .op (.store 10 v1 v2) fun v3 => .ret .ret [v1]) fun v1 => .op (.load 10 true (nth v1 0)) fun v2 => .ret .ret [v2]
theorem e35 : denFn prog f35 [] = a35 := by kernel_rfl
def a36x0 (v7 : List AV) (br : AV) : AC := .ite br (zr [(B false)]) (zm [(nth v7 1)])
def a36x1 (v5 : AV) (v7 : List AV) (b1 bl : AV) : AC := zu bl (.mv v5) fun bm => zu bl (.faddr 2 b1) fun bn => zu bl (.load 1 false bn) fun bo => zu bl (.lookup 3 false (I 0) bm bo) fun bp => zu bl (.bin .gtr bp (I 1)) fun bq => zi bl (B true) bq fun br => (a36x0 v7 br)
def a36x2 (v0 : List AV) (v5 : AV) (v7 : List AV) (b1 bf : AV) : AC := zb .lss bf (I 0) fun bg => zu bg (.faddr 2 b1) fun bh => zu bg (.load 1 false bh) fun bi => zu bg (.mv (nth v0 1)) fun bj => zu bg (.bin .geq bi bj) fun bk => zi bg (B true) bk fun bl => (a36x1 v5 v7 b1 bl)
def a36x3 (v0 : List AV) (v5 : AV) (v7 : List AV) (b1 b9 : AV) : AC := zl b9 fun ba => .op (.lookup 3 false (I 0) v5 ba) fun bb => zb .add bb (I 1) fun bc => .op (.mapset 3 v5 ba bc) fun bd => zf 2 b1 fun be => zl be fun bf => (a36x2 v0 v5 v7 b1 bf)
def a36x4 (v0 : List AV) (v5 : AV) (v7 : List AV) (b1 b8 : AV) : AC := .bind (.ite b8 (zf 2 b1 fun b9 => (a36x3 v0 v5 v7 b1 b9)) (zm [(nth v7 1)])) none (fun b9 => zm [(nth b9 0)]) (fun b9 => [(nth b9 0)])
def a36x5 (v0 : List AV) (v4 v5 : AV) (v7 : List AV) (b1 b4 : AV) : AC := zb .eql b4 (I 4) fun b5 => zb .lss (nth v7 0) v4 fun b6 => .op (.eq 4 true b5 b6) fun b7 => .ite b7 (zr [(B false)]) (zb .lss (nth v7 0) v4 fun b8 => (a36x4 v0 v5 v7 b1 b8))
def a36x6 (v0 : List AV) (v2 v4 v5 : AV) (v7 : List AV) : AC := .op (.saddr 4 v2 (nth v7 0)) fun v9 => .op (.load 4 true v9) fun b0 => .op (.alloc [(I 0), (I 0), (I 0), (U 0)]) fun b1 => .op (.store 4 b1 b0) fun b2 => zf 1 b1 fun b3 => zl b3 fun b4 => (a36x5 v0 v4 v5 v7 b1 b4)
def a36x7 (v7 v9 : List AV) : AC := zb .add (nth v7 0) (I 1) fun b0 => zm [b0, (nth v9 0)]
def a36x8 (v0 : List AV) (v2 v4 v5 v6 : AV) (v7 : List AV) : AC := zb .lss (nth v7 0) v6 fun v8 => .ite v8 (.bind (a36x6 v0 v2 v4 v5 v7) (some 1) (fun v9 => (a36x7 v7 v9)) (fun v9 => [(nth v7 0), (nth v9 0)])) (.ret (.exit 0) [(nth v7 0), (nth v7 1)])
def a36x9 (v0 : List AV) (v2 v4 v5 v6 : AV) : AC := .bind (.loop [(I 0), (B false)] (fun v7 => (a36x8 v0 v2 v4 v5 v6 v7)) (fun v7 => [(nth v7 0), (nth v7 1)])) (some 0) (fun v7 => zr [(B true)]) (fun v7 => [(nth v7 1)])
def a36 : List AV → AC := fun v0 => .op (.len false (nth v0 0)) fun v1 => zc 68 [(nth v0 0), v1] fun v2 => zc 68 [(nth v0 0), (nth v0 1)] fun v3 => .op (.len false v3) fun v4 => .op (.mkmap) fun v5 => .op (.len false v2) fun v6 => (a36x9 v0 v2 v4 v5 v6)
theorem e36 : denFn prog f36 [4, 21] = a36 := by kernel_rfl
def a37x0 (v0 v4 : List AV) : AC := .op (.saddr 1 (nth v0 0) (nth v4 0)) fun b0 => zl b0 fun b1 => .op (.saddr 1 (nth v0 1) (nth v4 0)) fun b2 => zl b2 fun b3 => zb .eql b1 b3 fun b4 => zm [b4]
def a37x1 (v4 b0 : List AV) : AC := zb .add (nth v4 0) (I 1) fun b1 => zm [b1, (nth b0 0)]
def a37x2 (v0 v4 : List AV) (v5 v7 : AV) : AC := zt (nth v4 1) (.bin .lss v5 v7) fun v8 => zi (nth v4 1) v8 (B false) fun v9 => .ite v9 (.bind (a37x0 v0 v4) (some 1) (fun b0 => (a37x1 v4 b0)) (fun b0 => [(nth v4 0), (nth b0 0)])) (.ret (.exit 0) [(nth v4 0), (nth v4 1)])
def a37x3 (v0 : List AV) (v3 : AV) : AC := .loop [(I 0), v3] (fun v4 => zt (nth v4 1) (.mv (nth v4 0)) fun v5 => zt (nth v4 1) (.mv (nth v0 0)) fun v6 => zt (nth v4 1) (.len false v6) fun v7 => (a37x2 v0 v4 v5 v7)) (fun v4 => [(nth v4 0), (nth v4 1)])
def a37 : List AV → AC := fun v0 => .op (.len false (nth v0 0)) fun v1 => .op (.len false (nth v0 1)) fun v2 => zb .eql v1 v2 fun v3 => .bind (a37x3 v0 v3) (some 0) (fun v4 => zr [(nth v4 1)]) (fun v4 => [(B false)])
theorem e37 : denFn prog f37 [5, 6] = a37 := by kernel_rfl
def a39x0 (b8 : AV) : AC := zl b8 fun cf => zr [cf, (I 0)]
def a39x1 (b8 c7 c8 : AV) : AC := zl c8 fun c9 => zc 75 [c7, c9] fun ca => zl b8 fun cb => zn cb fun cc => zf 37 cc fun cd => .op (.store 1 cd (.fn (.func 76) [] [b8])) fun ce => (a39x0 b8)
def a39x2 (v7 b8 bz c2 : AV) : AC := zs c2 bz fun c3 => zl b8 fun c4 => zn c4 fun c5 => zf 32 c5 fun c6 => zl c6 fun c7 => zf 28 v7 fun c8 => (a39x1 b8 c7 c8)
def a39x3 (v7 b8 bw : AV) : AC := zc 74 [(I 0)] fun bx => .chk (.load 1 false b8) bw (.op (.extract 0 bx) fun bz => .op (.extract 1 bx) fun c0 => zn bw fun c1 => zf 32 c1 fun c2 => (a39x2 v7 b8 bz c2))
def a39x4 (v7 b8 bn bq : AV) : AC := .op (.extract 0 bq) fun br => .op (.extract 1 bq) fun bs => zn bn fun bt => zf 31 bt fun bu => zs bu br fun bv => zl b8 fun bw => (a39x3 v7 b8 bw)
def a39x5 (v1 v7 b8 bh bl : AV) : AC := zc 72 [bh, bl] fun bm => zl b8 fun bn => zf 0 v1 fun bo => zl bo fun bp => zc 73 [bp] fun bq => .chk (.load 1 false b8) bn (a39x4 v7 b8 bn bq)
def a39x6 (v1 v7 b8 bc bf : AV) : AC := zs bf bc fun bg => .op (.load 29 true v7) fun bh => zl b8 fun bi => zn bi fun bj => zf 29 bj fun bk => zl bk fun bl => (a39x5 v1 v7 b8 bh bl)
def a39x7 (v1 v5 v7 b8 ba : AV) : AC := zc 71 [v5] fun bb => .chk (.load 1 false b8) ba (.op (.extract 0 bb) fun bc => .op (.extract 1 bb) fun bd => zn ba fun be => zf 29 be fun bf => (a39x6 v1 v7 b8 bc bf))
def a39x8 (v1 v5 v7 b1 b4 : AV) : AC := .op (.mkmap) fun b5 => .op (.build [(I 0), (I 0), (I 0), (I 0), (I 0), (I 0), (I 0), (I 0), (I 0), (I 0), (I 0), (I 0), (I 0), (I 0), (I 0), (I 0), (I 0), (I 0), (I 0), (I 0), (I 0), (I 0), (I 0), (I 0), (I 0), (I 0), (I 0), (I 0), Ns, Np, Np, Np, Np, Nm, Ns, Ns, (I 0), Nf] [(0, 29, b4), (30, 1, b1), (33, 1, b5)]) fun b6 => .op (.box b6) fun b7 => .op (.alloc [Np]) fun b8 => zs b8 b7 fun b9 => zl b8 fun ba => (a39x7 v1 v5 v7 b8 ba)
def a39x9 (v1 v5 v7 b0 : AV) : AC := .op (.extract 0 b0) fun b1 => .op (.extract 1 b0) fun b2 => zb .neq b2 (I 0) fun b3 => .ite b3 (zr [Np, b2]) (.op (.load 29 true v7) fun b4 => (a39x8 v1 v5 v7 b1 b4))
def a39x10 (v0 : List AV) (v1 v4 v5 v6 : AV) : AC := .op (.alloc [(I 0), (I 0), (I 0), (I 0), (I 0), (I 0), (I 0), (I 0), (I 0), (I 0), (I 0), (I 0), (I 0), (I 0), (I 0), (I 0), (I 0), (I 0), (I 0), (I 0), (I 0), (I 0), (I 0), (I 0), (I 0), (I 0), (I 0), (I 0), Ns]) fun v7 => .op (.store 29 v7 v4) fun v8 => zb .neq v6 (I 0) fun v9 => .ite v9 (zr [Np, v6]) (zc 70 [(nth v0 1)] fun b0 => (a39x9 v1 v5 v7 b0))
def a39 : List AV → AC := fun v0 => .op (.box (nth v0 0)) fun v1 => .op (.load 7 true v1) fun v2 => zc 69 [v2] fun v3 => .op (.extract 0 v3) fun v4 => .op (.extract 1 v3) fun v5 => .op (.extract 2 v3) fun v6 => (a39x10 v0 v1 v4 v5 v6)
theorem e39 : denFn prog f39 [4, 5] = a39 := by kernel_rfl
def a40 : List AV → AC := fun v0 => .op (.eq 63 false (nth v0 0) Ns) fun v1 => .ite v1 (zr [Ns]) (.op (.bslice 4 0 [(I 0), (I 0), (I 0), (I 0)] []) fun v2 => .op (.append 4 32 v2 (nth v0 0)) fun v3 => zr [v3])
theorem e40 : denFn prog f40 [2] = a40 := by kernel_rfl
def a41 : List AV → AC := fun v0 => .call (.fn (.func 77) [] []) [(nth v0 0)] fun v1 => .ite v1 (.ret .ret [(I 0)]) (.op (.nilchk (nth v0 0)) fun v2 => .op (.faddr 0 v2) fun v3 => .op (.load 1 false v3) fun v4 => .ret .ret [v4])
theorem e41 : denFn prog f41 [2] = a41 := by kernel_rfl
def a42x0 (v4 : List AV) (v7 v8 : AV) : AC := .op (.store 4 v8 v7) fun v9 => .op (.load 4 true v8) fun b0 => .call (.fn (.func 78) [] []) [b0] fun b1 => .op (.bin .neq b1 (I 0)) fun b2 => .ite b2 (.ret .ret [b1]) (.ret .normal [(nth v4 1)])
def a42x1 (v0 v4 : List AV) : AC := .bind (.op (.saddr 4 (nth v0 0) (nth v4 0)) fun v6 => .op (.load 4 true v6) fun v7 => .op (.alloc [(I 0), (I 0), (I 0), (I 0)]) fun v8 => (a42x0 v4 v7 v8)) (some 1) (fun v6 => .op (.bin .add (nth v4 0) (I 1)) fun v7 => .ret .normal [v7, (nth v6 0)]) (fun v6 => [(nth v4 0), (nth v6 0)])
def a42x2 (v0 : List AV) (v3 : AV) : AC := .loop [(I 0), (I 0)] (fun v4 => .op (.bin .lss (nth v4 0) v3) fun v5 => .ite v5 (a42x1 v0 v4) (.ret (.exit 0) [(nth v4 0), (nth v4 1)])) (fun v4 => [(nth v4 0), (nth v4 1)])
def a42 : List AV → AC := fun v0 => .op (.len false (nth v0 0)) fun v1 => .op (.bin .gtr v1 (I 32)) fun v2 => .ite v2 (.ret .ret [(I 4)]) (.op (.len false (nth v0 0)) fun v3 => .bind (a42x2 v0 v3) (some 0) (fun v4 => .ret .ret [(I 0)]) (fun v4 => [(nth v4 1)]))
theorem e42 : denFn prog f42 [2, 11] = a42 := by kernel_rfl
def a44 : List AV → AC := fun v0 => .op (.eq 69 false (nth v0 0) Ns) fun v1 => .ite v1 (zr [Ns]) (.op (.bslice 2 0 [(I 0), (I 0)] []) fun v2 => .op (.append 2 16 v2 (nth v0 0)) fun v3 => zr [v3])
theorem e44 : denFn prog f44 [2] = a44 := by kernel_rfl
def a45x0 (v2 v3 : AV) (b4 : List AV) : AC := .op (.store 1 v2 (nth b4 1)) fun b5 => .op (.store 1 v3 (B true)) fun b6 => .ret .ret []
def a45x1 (v2 v3 b3 : AV) : AC := .rng 1 b3 (fun b4 => .start (nth b4 0) (.bind (a45x0 v2 v3 b4) (some 1) (fun b5 => .ret .normal []) (fun b5 => []))) (.ret .normal []) []
def a45x2 (v0 : List AV) (v2 v3 v8 b0 : AV) : AC := .op (.load 2 true v8) fun b1 => .call (.fn (.func 80) [] []) [b1, (nth v0 1)] fun b2 => .chk (.load 2 true v8) b0 (.call (.fn (.func 81) [] []) [b0, b2] fun b3 => .bind (a45x1 v2 v3 b3) (some 0) (fun b4 => .ret .normal []) (fun b4 => []))
def a45x3 (v0 : List AV) (v2 v3 v7 v8 : AV) : AC := .bind (.ite v7 (.op (.load 2 true v8) fun b0 => (a45x2 v0 v2 v3 v8 b0)) (.ret .normal [])) none (fun b0 => .op (.store 1 v2 (I 0)) fun b1 => .op (.store 1 v3 (B false)) fun b2 => .ret .ret [v2, v3]) (fun b0 => [v2, v3])
def a45x4 (v0 : List AV) (v1 v2 v3 : AV) : AC := .op (.load 4 true v1) fun v4 => .call (.fn (.func 79) [] []) [v4] fun v5 => .op (.extract 0 v5) fun v6 => .op (.extract 1 v5) fun v7 => .op (.alloc [(I 0), (I 0)]) fun v8 => .op (.store 2 v8 v6) fun v9 => (a45x3 v0 v2 v3 v7 v8)
def a45 : List AV → AC := fun v0 => .fin (.op (.box (nth v0 0)) fun v1 => .op (.alloc [(I 0)]) fun v2 => .op (.alloc [(B false)]) fun v3 => (a45x4 v0 v1 v2 v3)) fun v1 => .op (.load 1 false (nth v1 0)) fun v2 => .op (.load 1 false (nth v1 1)) fun v3 => .ret .ret [v2, v3]
theorem e45 : denFn prog f45 [] = a45 := by kernel_rfl
def a47x0 (v1 v7 v8 : AV) : AC := .op (.append 1 8 v7 v8) fun v9 => zs v1 v9 fun b0 => zm []
def a47x1 (v1 : AV) (v6 : List AV) : AC := .start (nth v6 0) (.bind (zl v1 fun v7 => .op (.bslice 1 1 [(I 0)] [(0, 1, (nth v6 1))]) fun v8 => (a47x0 v1 v7 v8)) (some 1) (fun v7 => zm []) (fun v7 => []))
def a47x2 (v1 v4 : AV) : AC := zc 82 [v4] fun v5 => .bind (.rng 2 v5 (fun v6 => (a47x1 v1 v6)) (zm []) []) (some 0) (fun v6 => zl v1 fun v7 => zr [v7]) (fun v6 => [Ns])
def a47 : List AV → AC := fun v0 => .op (.alloc [Ns]) fun v1 => .op (.eq 87 false (nth v0 0) Np) fun v2 => .ite v2 (zl v1 fun v3 => zr [v3]) (zn (nth v0 0) fun v3 => zf 0 v3 fun v4 => (a47x2 v1 v4))
theorem e47 : denFn prog f47 [2] = a47 := by kernel_rfl
def a51x0 (v1 v2 v3 : AV) : AC := .op (.bslice 4 2 [(I 0), (I 0), (I 0), (I 0)] [(0, 4, v2), (4, 4, v3)]) fun v4 => .op (.build [(I 0), (I 0), (I 0), (I 0), (I 0), (I 0), Ns] [(0, 1, (I 2)), (1, 1, (I 3)), (2, 1, (I 4)), (3, 1, (I 1)), (4, 1, (I 2)), (5, 1, (I 9)), (6, 1, v4)]) fun v5 => .op (.store 7 v1 v5) fun v6 => zr [v1]
def a51 : List AV → AC := fun v0 => .fin (.op (.alloc [(I 0), (I 0), (I 0), (I 0), (I 0), (I 0), Ns]) fun v1 => .op (.build [(I 0), (I 0), (I 0), (I 0)] [(0, 1, (I 1)), (1, 1, (I 5)), (2, 1, (I 10)), (3, 1, (I 3))]) fun v2 => .op (.build [(I 0), (I 0), (I 0), (I 0)] [(0, 1, (I 2)), (1, 1, (I 2))]) fun v3 => (a51x0 v1 v2 v3)) fun v1 => .op (.load 7 true (nth v1 0)) fun v2 => zr [v2]
theorem e51 : denFn prog f51 [] = a51 := by kernel_rfl
def a52x0 (v0 v4 : List AV) : AC := .op (.saddr 1 (nth v0 0) (nth v4 0)) fun b0 => zl b0 fun b1 => .op (.saddr 1 (nth v0 1) (nth v4 0)) fun b2 => zl b2 fun b3 => zb .eql b1 b3 fun b4 => zm [b4]
def a52x1 (v4 b0 : List AV) : AC := zb .add (nth v4 0) (I 1) fun b1 => zm [b1, (nth b0 0)]
def a52x2 (v0 v4 : List AV) (v5 v7 : AV) : AC := zt (nth v4 1) (.bin .lss v5 v7) fun v8 => zi (nth v4 1) v8 (B false) fun v9 => .ite v9 (.bind (a52x0 v0 v4) (some 1) (fun b0 => (a52x1 v4 b0)) (fun b0 => [(nth v4 0), (nth b0 0)])) (.ret (.exit 0) [(nth v4 0), (nth v4 1)])
def a52x3 (v0 : List AV) (v3 : AV) : AC := .loop [(I 0), v3] (fun v4 => zt (nth v4 1) (.mv (nth v4 0)) fun v5 => zt (nth v4 1) (.mv (nth v0 0)) fun v6 => zt (nth v4 1) (.len false v6) fun v7 => (a52x2 v0 v4 v5 v7)) (fun v4 => [(nth v4 0), (nth v4 1)])
def a52 : List AV → AC := fun v0 => .op (.len false (nth v0 0)) fun v1 => .op (.len false (nth v0 1)) fun v2 => zb .eql v1 v2 fun v3 => .bind (a52x3 v0 v3) (some 0) (fun v4 => zr [(nth v4 1)]) (fun v4 => [(B false)])
theorem e52 : denFn prog f52 [5, 6] = a52 := by kernel_rfl
def a53x0 (di : List AV) (dq : AV) : AC := .ite dq (zr [(B false)]) (zm [(nth di 1)])
def a53x1 (dg : AV) (di : List AV) : AC := .op (.saddr 1 dg (nth di 0)) fun dk => zl dk fun dl => zb .lss dl (I 0) fun dm => zu dm (.mv dl) fun dn => zu dm (.bin .geq dn (I 4096)) fun dp => zi dm (B true) dp fun dq => (a53x0 di dq)
def a53x2 (di dk : List AV) : AC := zb .add (nth di 0) (I 1) fun dl => zm [dl, (nth dk 0)]
def a53x3 (dg dh : AV) (di : List AV) : AC := zb .lss (nth di 0) dh fun dj => .ite dj (.bind (a53x1 dg di) (some 1) (fun dk => (a53x2 di dk)) (fun dk => [(nth di 0), (nth dk 0)])) (.ret (.exit 0) [(nth di 0), (nth di 1)])
def a53x4 (dg dh : AV) : AC := .bind (.loop [(I 0), (B false)] (fun di => (a53x3 dg dh di)) (fun di => [(nth di 0), (nth di 1)])) (some 0) (fun di => zr [(B true)]) (fun di => [(nth di 1)])
def a53x5 (v1 co cr cu cy d2 d5 d8 db : AV) : AC := zf 26 v1 fun dc => zl dc fun dd => zf 27 v1 fun de => zl de fun df => .op (.bslice 1 10 [(I 0)] [(0, 1, co), (1, 1, cr), (2, 1, cu), (3, 1, cy), (4, 1, d2), (5, 1, d5), (6, 1, d8), (7, 1, db), (8, 1, dd), (9, 1, df)]) fun dg => .op (.len false dg) fun dh => (a53x4 dg dh)
def a53x6 (v1 co cr cu cy d2 d5 : AV) : AC := zf 23 v1 fun d6 => zf 0 d6 fun d7 => zl d7 fun d8 => zf 23 v1 fun d9 => zf 1 d9 fun da => zl da fun db => (a53x5 v1 co cr cu cy d2 d5 d8 db)
def a53x7 (v1 co cr cu cy cz : AV) : AC := zf 2 cz fun d0 => zf 1 d0 fun d1 => zl d1 fun d2 => zf 20 v1 fun d3 => zf 0 d3 fun d4 => zl d4 fun d5 => (a53x6 v1 co cr cu cy d2 d5)
def a53x8 (v1 co cr ct : AV) : AC := zl ct fun cu => zf 15 v1 fun cv => zf 2 cv fun cw => zf 0 cw fun cx => zl cx fun cy => zf 15 v1 fun cz => (a53x7 v1 co cr cu cy cz)
def a53x9 (v1 cn : AV) : AC := zl cn fun co => zf 15 v1 fun cp => zf 0 cp fun cq => zl cq fun cr => zf 15 v1 fun cs => zf 1 cs fun ct => (a53x8 v1 co cr ct)
def a53x10 (v1 cg cj : AV) : AC := zu cg (.bin .gtr cj (I 16)) fun ck => zi cg (B true) ck fun cl => .ite cl (zr [(B false)]) (zf 13 v1 fun cm => zf 0 cm fun cn => (a53x9 v1 cn))
def a53x11 (v1 cb cd : AV) : AC := zu cb (.load 1 false cd) fun ce => zu cb (.bin .lss ce (I 1)) fun cf => zi cb (B true) cf fun cg => zu cg (.faddr 20 v1) fun ch => zu cg (.faddr 2 ch) fun ci => zu cg (.load 1 false ci) fun cj => (a53x10 v1 cg cj)
def a53x12 (v1 c5 c7 : AV) : AC := zu c5 (.faddr 2 c7) fun c8 => zu c5 (.load 1 false c8) fun c9 => zu c5 (.bin .gtr c9 (I 64)) fun ca => zi c5 (B true) ca fun cb => zu cb (.faddr 20 v1) fun cc => zu cb (.faddr 2 cc) fun cd => (a53x11 v1 cb cd)
def a53x13 (v1 bz c1 : AV) : AC := zu bz (.faddr 2 c1) fun c2 => zu bz (.load 1 false c2) fun c3 => zu bz (.bin .lss c3 (I 1)) fun c4 => zi bz (B true) c4 fun c5 => zu c5 (.faddr 15 v1) fun c6 => zu c5 (.faddr 2 c6) fun c7 => (a53x12 v1 c5 c7)
def a53x14 (v1 v6 bs bu : AV) : AC := zu bs (.load 1 false bu) fun bv => zu bs (.mv v6) fun bw => zu bs (.bin .neq bv bw) fun bx => zi bs (B true) bx fun bz => zu bz (.faddr 15 v1) fun c0 => zu bz (.faddr 2 c0) fun c1 => (a53x13 v1 bz c1)
def a53x15 (v1 v6 bm bo : AV) : AC := zu bm (.load 1 false bo) fun bp => zu bm (.mv v6) fun bq => zu bm (.bin .neq bp bq) fun br => zi bm (B true) br fun bs => zu bs (.faddr 23 v1) fun bt => zu bs (.faddr 2 bt) fun bu => (a53x14 v1 v6 bs bu)
def a53x16 (v1 v6 : AV) : AC := zb .lss v6 (I 1) fun bj => zu bj (.mv v6) fun bk => zu bj (.bin .gtr bk (I 64)) fun bl => zi bj (B true) bl fun bm => zu bm (.faddr 20 v1) fun bn => zu bm (.faddr 1 bn) fun bo => (a53x15 v1 v6 bm bo)
def a53x17 (v1 v6 ba bd be : AV) : AC := zu ba (.load 1 false be) fun bf => zu ba (.len false bf) fun bg => zu ba (.bin .neq bd bg) fun bh => zi ba (B true) bh fun bi => .ite bi (zr [(B false)]) (a53x16 v1 v6)
def a53x18 (v1 v6 b5 b8 : AV) : AC := zu b5 (.bin .eql b8 (I 0)) fun b9 => zi b5 (B true) b9 fun ba => zu ba (.faddr 13 v1) fun bb => zu ba (.faddr 1 bb) fun bc => zu ba (.load 1 false bc) fun bd => zu ba (.faddr 28 v1) fun be => (a53x17 v1 v6 ba bd be)
def a53x19 (v1 v6 b0 b2 : AV) : AC := .gcall b0 false (zF 42) [b2] fun b3 => zu b0 (.bin .neq b3 (I 0)) fun b4 => zi b0 (B true) b4 fun b5 => zu b5 (.faddr 28 v1) fun b6 => zu b5 (.load 1 false b6) fun b7 => zu b5 (.len false b7) fun b8 => (a53x18 v1 v6 b5 b8)
def a53x20 (v1 v6 : AV) : AC := zf 0 v1 fun v7 => .op (.load 13 true v7) fun v8 => zc 83 [v8, (I 0), (I 0)] fun v9 => zb .lss v9 (I 0) fun b0 => zu b0 (.faddr 28 v1) fun b1 => zu b0 (.load 1 false b1) fun b2 => (a53x19 v1 v6 b0 b2)
def a53 : List AV → AC := fun v0 => .op (.box (nth v0 0)) fun v1 => zf 0 v1 fun v2 => zf 3 v2 fun v3 => zf 6 v3 fun v4 => zf 2 v4 fun v5 => zl v5 fun v6 => (a53x20 v1 v6)
theorem e53 : denFn prog f53 [2, 114] = a53 := by kernel_rfl
def a54x0 (be bf : AV) : AC := zs bf be fun bg => zm []
def a54x1 (b1 b9 : AV) (bb : List AV) : AC := .bind (.op (.saddr 1 b9 (nth bb 0)) fun bd => zl bd fun be => .op (.saddr 1 b1 (nth bb 0)) fun bf => (a54x0 be bf)) (some 1) (fun bd => zb .add (nth bb 0) (I 1) fun be => zm [be]) (fun bd => [(nth bb 0)])
def a54x2 (b1 b9 ba : AV) : AC := .loop [(I 0)] (fun bb => zb .lss (nth bb 0) ba fun bc => .ite bc (a54x1 b1 b9 bb) (.ret (.exit 0) [(nth bb 0)])) (fun bb => [(nth bb 0)])
def a54x3 (b1 b5 b6 : AV) : AC := zf 1 b6 fun b7 => zl b7 fun b8 => .op (.aslice 4096 1 b5 none (some b8) none) fun b9 => .op (.len false b9) fun ba => .bind (a54x2 b1 b9 ba) (some 0) (fun bb => zr [b1]) (fun bb => [Ns])
def a54x4 (v0 : List AV) (b0 : AV) : AC := .op (.mkslice 1 8 [(U 0)] b0 b0) fun b1 => zn (nth v0 0) fun b2 => zf 0 b2 fun b3 => zl b3 fun b4 => zn b4 fun b5 => zn (nth v0 0) fun b6 => (a54x3 b1 b5 b6)
def a54x5 (v0 : List AV) (v1 v6 : AV) : AC := zi v1 (B true) v6 fun v7 => .ite v7 (zr [Ns]) (zn (nth v0 0) fun v8 => zf 1 v8 fun v9 => zl v9 fun b0 => (a54x4 v0 b0))
def a54 : List AV → AC := fun v0 => .op (.eq 85 false (nth v0 0) Np) fun v1 => zu v1 (.mv (nth v0 0)) fun v2 => zu v1 (.nilchk v2) fun v3 => zu v1 (.faddr 0 v3) fun v4 => zu v1 (.load 1 false v4) fun v5 => zu v1 (.eq 127 false v5 Np) fun v6 => (a54x5 v0 v1 v6)
theorem e54 : denFn prog f54 [2, 31] = a54 := by kernel_rfl
def a55x0 (ba : AV) : AC := zl ba fun bb => zm [bb]
def a55x1 (v5 : AV) (v9 : List AV) (b3 b9 : AV) : AC := .bind (.ite b9 (.op (.saddr 1 v5 b3) fun ba => (a55x0 ba)) (zm [(U 0)])) none (fun ba => zc 85 [(nth ba 0)] fun bb => .op (.bslice 3 1 [(I 0), (I 0), (I 0)] [(0, 3, bb)]) fun bc => .op (.append 3 24 (nth v9 1) bc) fun bd => zm [bd, (nth ba 0)]) (fun ba => [(nth v9 1), (nth ba 0)])
def a55x2 (v5 : AV) (v9 : List AV) (b3 : AV) : AC := zb .geq b3 (I 0) fun b4 => zt b4 (.mv b3) fun b5 => zt b4 (.mv v5) fun b6 => zt b4 (.len false b6) fun b7 => zt b4 (.bin .lss b5 b7) fun b8 => zi b4 b8 (B false) fun b9 => (a55x1 v5 v9 b3 b9)
def a55x3 (v1 v5 : AV) (v9 : List AV) : AC := .bind (zf 0 v1 fun b1 => zl b1 fun b2 => zb .add b2 (nth v9 0) fun b3 => (a55x2 v5 v9 b3)) (some 1) (fun b1 => zb .add (nth v9 0) (I 1) fun b2 => zm [b2, (nth b1 0), (nth b1 1)]) (fun b1 => [(nth v9 0), (nth b1 0), (nth b1 1)])
def a55x4 (v1 v5 v8 : AV) : AC := .loop [(I 0), Ns, .no] (fun v9 => zb .lss (nth v9 0) v8 fun b0 => .ite b0 (a55x3 v1 v5 v9) (.ret (.exit 0) [(nth v9 0), (nth v9 1), (nth v9 2)])) (fun v9 => [(nth v9 0), (nth v9 1), (nth v9 2)])
def a55x5 (v0 : List AV) (v1 : AV) : AC := zc 54 [(nth v0 1)] fun v5 => zf 2 v1 fun v6 => zf 2 v6 fun v7 => zl v7 fun v8 => .bind (a55x4 v1 v5 v8) (some 0) (fun v9 => zr [(nth v9 1)]) (fun v9 => [Ns])
def a55 : List AV → AC := fun v0 => .op (.box (nth v0 0)) fun v1 => .op (.load 5 true v1) fun v2 => zc 84 [v2] fun v3 => .op (.un .not v3) fun v4 => .ite v4 (zr [Ns]) (a55x5 v0 v1)
theorem e55 : denFn prog f55 [4, 6, 18, 8] = a55 := by kernel_rfl
def a56x0 (v2 : List AV) (v6 b8 : AV) : AC := .ite b8 (.op (.load 4 true v6) fun b9 => .op (.bslice 4 1 [(I 0), (I 0), (I 0), (U 0)] [(0, 4, b9)]) fun ba => .op (.append 4 32 (nth v2 1) ba) fun bb => zm [bb]) (zm [(nth v2 1)])
def a56x1 (v2 : List AV) (v6 b4 b5 : AV) : AC := zu b4 (.load 1 false b5) fun b6 => zu b4 (.bin .eql b6 (I 4)) fun b7 => zi b4 (B true) b7 fun b8 => .bind (a56x0 v2 v6 b8) none (fun b9 => zm [(nth b9 0)]) (fun b9 => [(nth b9 0)])
def a56x2 (v2 : List AV) (v6 v9 : AV) : AC := zb .eql v9 (I 2) fun b0 => zu b0 (.faddr 1 v6) fun b1 => zu b0 (.load 1 false b1) fun b2 => zu b0 (.bin .eql b2 (I 3)) fun b3 => zi b0 (B true) b3 fun b4 => zu b4 (.faddr 1 v6) fun b5 => (a56x1 v2 v6 b4 b5)
def a56x3 (v0 v2 : List AV) : AC := .op (.saddr 4 (nth v0 0) (nth v2 0)) fun v4 => .op (.load 4 true v4) fun v5 => .op (.alloc [(I 0), (I 0), (I 0), (U 0)]) fun v6 => .op (.store 4 v6 v5) fun v7 => zf 1 v6 fun v8 => zl v8 fun v9 => (a56x2 v2 v6 v9)
def a56x4 (v2 v4 : List AV) : AC := zb .add (nth v2 0) (I 1) fun v5 => zm [v5, (nth v4 0)]
def a56x5 (v0 : List AV) (v1 : AV) (v2 : List AV) : AC := zb .lss (nth v2 0) v1 fun v3 => .ite v3 (.bind (a56x3 v0 v2) (some 1) (fun v4 => (a56x4 v2 v4)) (fun v4 => [(nth v2 0), (nth v4 0)])) (.ret (.exit 0) [(nth v2 0), (nth v2 1)])
def a56 : List AV → AC := fun v0 => .op (.len false (nth v0 0)) fun v1 => .bind (.loop [(I 0), Ns] (fun v2 => (a56x5 v0 v1 v2)) (fun v2 => [(nth v2 0), (nth v2 1)])) (some 0) (fun v2 => zc 86 [(nth v2 1), (zF 87)] fun v3 => zr [(nth v2 1)]) (fun v2 => [Ns])
theorem e56 : denFn prog f56 [3, 8] = a56 := by kernel_rfl
def a57x0 (v5 : AV) (v7 : List AV) : AC := .op (.saddr 1 v5 (nth v7 0)) fun v9 => zl v9 fun b0 => zb .neq b0 (U 0) fun b1 => .op (.bslice 1 1 [(B false)] [(0, 1, b1)]) fun b2 => .op (.append 1 1 (nth v7 1) b2) fun b3 => zm [b3]
def a57x1 (v7 v9 : List AV) : AC := zb .add (nth v7 0) (I 1) fun b0 => zm [b0, (nth v9 0)]
def a57x2 (v5 v6 : AV) (v7 : List AV) : AC := zb .lss (nth v7 0) v6 fun v8 => .ite v8 (.bind (a57x0 v5 v7) (some 1) (fun v9 => (a57x1 v7 v9)) (fun v9 => [(nth v7 0), (nth v9 0)])) (.ret (.exit 0) [(nth v7 0), (nth v7 1)])
def a57x3 (v5 v6 : AV) : AC := .bind (.loop [(I 0), Ns] (fun v7 => (a57x2 v5 v6 v7)) (fun v7 => [(nth v7 0), (nth v7 1)])) (some 0) (fun v7 => zr [(nth v7 1)]) (fun v7 => [Ns])
def a57 : List AV → AC := fun v0 => .op (.box (nth v0 0)) fun v1 => .op (.load 3 true v1) fun v2 => zf 1 v1 fun v3 => zl v3 fun v4 => zc 88 [v2, v4, (nth v0 1)] fun v5 => .op (.len false v5) fun v6 => (a57x3 v5 v6)
theorem e57 : denFn prog f57 [5, 14] = a57 := by kernel_rfl
def a58x0 (v3 : AV) : AC := zs v3 (B false) fun b7 => zr []
def a58x1 (v2 v3 b0 : AV) : AC := .op (.load 4 true b0) fun b2 => zl v2 fun b3 => zc 91 [b2, b3] fun b4 => .op (.len false b4) fun b5 => zb .gtr b5 (I 0) fun b6 => .ite b6 (a58x0 v3) (zm [])
def a58x2 (v2 v3 : AV) (v9 : List AV) : AC := .op (.alloc [(I 0), (I 0), (I 0), (I 0)]) fun b0 => .op (.store 4 b0 (nth v9 2)) fun b1 => .start (nth v9 0) (.bind (a58x1 v2 v3 b0) (some 1) (fun b2 => zm []) (fun b2 => []))
def a58x3 (v2 v3 v7 : AV) : AC := zc 90 [v7] fun v8 => .bind (.rng 2 v8 (fun v9 => (a58x2 v2 v3 v9)) (zm []) []) (some 0) (fun v9 => zs v3 (B true) fun b0 => zr [v3]) (fun v9 => [v3])
def a58x4 (v1 v2 v3 : AV) : AC := .op (.load 3 true v1) fun v4 => zc 89 [v4] fun v5 => .op (.un .not v5) fun v6 => .ite v6 (zs v3 (B true) fun v7 => zr [v3]) (.op (.load 3 true v1) fun v7 => (a58x3 v2 v3 v7))
def a58 : List AV → AC := fun v0 => .fin (.op (.box (nth v0 0)) fun v1 => .op (.box (nth v0 1)) fun v2 => .op (.alloc [(B false)]) fun v3 => (a58x4 v1 v2 v3)) fun v1 => zl (nth v1 0) fun v2 => zr [v2]
theorem e58 : denFn prog f58 [] = a58 := by kernel_rfl
def a59x0 (v2 bt : AV) : AC := .op (.store 5 v2 bt) fun bu => zr [v2, (I 0)]
def a59x1 (v0 : List AV) (v2 bg bh bn bo bq : AV) : AC := .chk (.load 1 false bn) bo (zc 17 [(nth v0 0)] fun br => .chk (.load 1 false bg) bh (.chk (.load 1 false bn) bo (zc 92 [(nth v0 0), bh, bq, bo, br] fun bs => .op (.build [(I 0), (B false), (I 0), (I 0), (U 0)] []) fun bt => (a59x0 v2 bt))))
def a59x2 (v0 : List AV) (v2 bg bh bj bk bl bm bn bo bp : AV) : AC := .chk (.load 1 false bg) bh (.chk (.load 29 true bj) bk (.chk (.load 1 false bl) bm (.chk (.load 1 false bn) bo (zc 93 [bk, bm, bp] fun bq => .chk (.load 1 false bg) bh (a59x1 v0 v2 bg bh bn bo bq)))))
def a59x3 (v0 : List AV) (v1 v2 bg bh bj : AV) : AC := .op (.load 29 true bj) fun bk => zf 2 v1 fun bl => zl bl fun bm => zf 2 v1 fun bn => zl bn fun bo => zc 17 [(nth v0 0)] fun bp => (a59x2 v0 v2 bg bh bj bk bl bm bn bo bp)
def a59x4 (v0 : List AV) (v1 v2 bf : AV) : AC := .ite bf (.op (.build [(I 0), (B false), (I 0), (I 0), (U 0)] []) fun bg => .op (.store 5 v2 bg) fun bh => zr [v2, (I 11)]) (zf 1 v1 fun bg => zl bg fun bh => zn (nth v0 0) fun bi => zf 0 bi fun bj => (a59x3 v0 v1 v2 bg bh bj))
def a59x5 (v0 : List AV) (v1 v2 b9 : AV) : AC := zf 2 v1 fun ba => zl ba fun bb => .op (.saddr 4 b9 bb) fun bc => zf 0 bc fun bd => zl bd fun be => zb .eql be (I 1) fun bf => (a59x4 v0 v1 v2 bf)
def a59x6 (v0 : List AV) (v1 v2 b5 : AV) : AC := .ite b5 (.op (.build [(I 0), (B false), (I 0), (I 0), (U 0)] []) fun b6 => .op (.store 5 v2 b6) fun b7 => zr [v2, (I 3)]) (zn (nth v0 0) fun b6 => zf 0 b6 fun b7 => zf 28 b7 fun b8 => zl b8 fun b9 => (a59x5 v0 v1 v2 b9))
def a59x7 (v0 : List AV) (v1 v2 v5 v7 v9 : AV) : AC := zu v5 (.faddr 0 v9) fun b0 => zu v5 (.faddr 28 b0) fun b1 => zu v5 (.load 1 false b1) fun b2 => zu v5 (.len false b2) fun b3 => zu v5 (.bin .geq v7 b3) fun b4 => zi v5 (B true) b4 fun b5 => (a59x6 v0 v1 v2 b5)
def a59x8 (v0 : List AV) (v1 v2 v3 : AV) : AC := zl v3 fun v4 => zb .lss v4 (I 0) fun v5 => zu v5 (.faddr 2 v1) fun v6 => zu v5 (.load 1 false v6) fun v7 => zu v5 (.mv (nth v0 0)) fun v8 => zu v5 (.nilchk v8) fun v9 => (a59x7 v0 v1 v2 v5 v7 v9)
def a59 : List AV → AC := fun v0 => .fin (.op (.box (nth v0 1)) fun v1 => .op (.alloc [(I 0), (B false), (I 0), (I 0), (U 0)]) fun v2 => zf 2 v1 fun v3 => (a59x8 v0 v1 v2 v3)) fun v1 => .op (.load 5 true (nth v1 0)) fun v2 => zr [v2, (nth v1 1)]
theorem e59 : denFn prog f59 [5] = a59 := by kernel_rfl
def a60x0 (v0 : List AV) (v2 bc bk bl bm bn bo : AV) : AC := .chk (.load 1 false bk) bl (.chk (.load 1 false bm) bn (zc 92 [(nth v0 0), bc, bo, bl, bn] fun bp => .op (.build [(I 0), (B false), (I 0), (I 0), (U 0)] []) fun bq => .op (.store 5 v2 bq) fun br => zr [(I 0)]))
def a60x1 (v0 : List AV) (v2 b1 bb bc bf bh bj : AV) : AC := zf 0 b1 fun bk => zl bk fun bl => zf 1 b1 fun bm => zl bm fun bn => zc 93 [bf, bh, bj] fun bo => .chk (.load 1 false bb) bc (a60x0 v0 v2 bc bk bl bm bn bo)
def a60x2 (v0 : List AV) (v2 b1 bb bc bd : AV) : AC := zf 0 bd fun be => .op (.load 29 true be) fun bf => zf 0 b1 fun bg => zl bg fun bh => zf 1 b1 fun bi => zl bi fun bj => (a60x1 v0 v2 b1 bb bc bf bh bj)
def a60x3 (v0 : List AV) (v1 v2 b1 b7 : AV) : AC := zn (nth v0 0) fun b8 => zf 34 b8 fun b9 => zs b9 b7 fun ba => zf 1 v1 fun bb => zl bb fun bc => zn (nth v0 0) fun bd => (a60x2 v0 v2 b1 bb bc bd)
def a60x4 (v0 : List AV) (v1 v2 b0 b1 : AV) : AC := .op (.store 2 b1 b0) fun b2 => zn (nth v0 0) fun b3 => zf 34 b3 fun b4 => zl b4 fun b5 => .op (.sslice 2 b5 (some (I 1)) none none) fun b6 => zc 44 [b6] fun b7 => (a60x3 v0 v1 v2 b1 b7)
def a60x5 (v0 : List AV) (v1 v2 v5 : AV) (v7 : List AV) : AC := .bind (.op (.saddr 2 v5 (nth v7 0)) fun v9 => .op (.load 2 true v9) fun b0 => .op (.alloc [(I 0), (I 0)]) fun b1 => (a60x4 v0 v1 v2 b0 b1)) (some 1) (fun v9 => zb .add (nth v7 0) (I 1) fun b0 => zm [b0, (nth v9 0)]) (fun v9 => [(nth v7 0), (nth v9 0)])
def a60x6 (v0 : List AV) (v1 v2 v5 v6 : AV) : AC := .loop [(I 0), (I 0)] (fun v7 => zb .lss (nth v7 0) v6 fun v8 => .ite v8 (a60x5 v0 v1 v2 v5 v7) (.ret (.exit 0) [(nth v7 0), (nth v7 1)])) (fun v7 => [(nth v7 0), (nth v7 1)])
def a60x7 (v2 : AV) : AC := .op (.build [(I 0), (B false), (I 0), (I 0), (U 0)] []) fun v8 => .op (.store 5 v2 v8) fun v9 => zr [v2, (I 15)]
def a60x8 (v0 : List AV) (v1 v2 v3 : AV) : AC := zf 34 v3 fun v4 => zl v4 fun v5 => .op (.len false v5) fun v6 => .bind (a60x6 v0 v1 v2 v5 v6) (some 0) (fun v7 => (a60x7 v2)) (fun v7 => [v2, (nth v7 1)])
def a60 : List AV → AC := fun v0 => .fin (.op (.box (nth v0 1)) fun v1 => .op (.alloc [(I 0), (B false), (I 0), (I 0), (U 0)]) fun v2 => zn (nth v0 0) fun v3 => (a60x8 v0 v1 v2 v3)) fun v1 => .op (.load 5 true (nth v1 0)) fun v2 => zr [v2, (nth v1 1)]
theorem e60 : denFn prog f60 [5, 13] = a60 := by kernel_rfl
def a61x0 (v2 b5 : AV) : AC := .op (.store 5 v2 b5) fun b6 => zr [v2, (I 0)]
def a61x1 (v0 : List AV) (v2 v3 v4 v7 v9 b0 b1 b2 : AV) : AC := .chk (.load 1 false b0) b1 (zc 94 [v7, v9, b2] fun b3 => .chk (.load 1 false v3) v4 (.chk (.load 1 false b0) b1 (zc 92 [(nth v0 0), v4, b3, b1, (I 0)] fun b4 => .op (.build [(I 0), (B false), (I 0), (I 0), (U 0)] []) fun b5 => (a61x0 v2 b5))))
def a61x2 (v0 : List AV) (v1 v2 v3 v4 v6 v7 v8 v9 : AV) : AC := zf 1 v1 fun b0 => zl b0 fun b1 => zc 95 [(nth v0 0)] fun b2 => .chk (.load 1 false v3) v4 (.chk (.load 29 true v6) v7 (.chk (.load 1 false v8) v9 (a61x1 v0 v2 v3 v4 v7 v9 b0 b1 b2)))
def a61x3 (v0 : List AV) (v1 v2 v3 : AV) : AC := zl v3 fun v4 => zn (nth v0 0) fun v5 => zf 0 v5 fun v6 => .op (.load 29 true v6) fun v7 => zf 1 v1 fun v8 => zl v8 fun v9 => (a61x2 v0 v1 v2 v3 v4 v6 v7 v8 v9)
def a61 : List AV → AC := fun v0 => .fin (.op (.box (nth v0 1)) fun v1 => .op (.alloc [(I 0), (B false), (I 0), (I 0), (U 0)]) fun v2 => zf 1 v1 fun v3 => (a61x3 v0 v1 v2 v3)) fun v1 => .op (.load 5 true (nth v1 0)) fun v2 => zr [v2, (nth v1 1)]
theorem e61 : denFn prog f61 [] = a61 := by kernel_rfl
def a62x0 (v2 : AV) : AC := .op (.build [(I 0), (B false), (I 0), (I 0), (U 0)] []) fun b4 => .op (.store 5 v2 b4) fun b5 => zr [v2, (I 0)]
def a62x1 (v0 : List AV) (v1 v2 v3 v4 v7 v9 : AV) : AC := zf 1 v1 fun b0 => zl b0 fun b1 => zc 96 [v7, v9] fun b2 => .chk (.load 1 false v3) v4 (.chk (.load 1 false b0) b1 (zc 92 [(nth v0 0), v4, b2, b1, (I 0)] fun b3 => (a62x0 v2)))
def a62x2 (v0 : List AV) (v1 v2 v3 : AV) : AC := zl v3 fun v4 => zn (nth v0 0) fun v5 => zf 0 v5 fun v6 => .op (.load 29 true v6) fun v7 => zf 1 v1 fun v8 => zl v8 fun v9 => (a62x1 v0 v1 v2 v3 v4 v7 v9)
def a62 : List AV → AC := fun v0 => .fin (.op (.box (nth v0 1)) fun v1 => .op (.alloc [(I 0), (B false), (I 0), (I 0), (U 0)]) fun v2 => zf 1 v1 fun v3 => (a62x2 v0 v1 v2 v3)) fun v1 => .op (.load 5 true (nth v1 0)) fun v2 => zr [v2, (nth v1 1)]
theorem e62 : denFn prog f62 [] = a62 := by kernel_rfl
def a63x0 (v2 b5 : AV) : AC := .op (.store 5 v2 b5) fun b6 => zr [v2, (I 0)]
def a63x1 (v0 : List AV) (v2 v3 v4 v7 v9 b0 b1 b2 : AV) : AC := .chk (.load 1 false b0) b1 (zc 97 [v7, v9, b2] fun b3 => .chk (.load 1 false v3) v4 (.chk (.load 1 false b0) b1 (zc 92 [(nth v0 0), v4, b3, b1, (I 0)] fun b4 => .op (.build [(I 0), (B false), (I 0), (I 0), (U 0)] []) fun b5 => (a63x0 v2 b5))))
def a63x2 (v0 : List AV) (v1 v2 v3 v4 v6 v7 v8 v9 : AV) : AC := zf 1 v1 fun b0 => zl b0 fun b1 => zc 95 [(nth v0 0)] fun b2 => .chk (.load 1 false v3) v4 (.chk (.load 29 true v6) v7 (.chk (.load 1 false v8) v9 (a63x1 v0 v2 v3 v4 v7 v9 b0 b1 b2)))
def a63x3 (v0 : List AV) (v1 v2 v3 : AV) : AC := zl v3 fun v4 => zn (nth v0 0) fun v5 => zf 0 v5 fun v6 => .op (.load 29 true v6) fun v7 => zf 1 v1 fun v8 => zl v8 fun v9 => (a63x2 v0 v1 v2 v3 v4 v6 v7 v8 v9)
def a63 : List AV → AC := fun v0 => .fin (.op (.box (nth v0 1)) fun v1 => .op (.alloc [(I 0), (B false), (I 0), (I 0), (U 0)]) fun v2 => zf 1 v1 fun v3 => (a63x3 v0 v1 v2 v3)) fun v1 => .op (.load 5 true (nth v1 0)) fun v2 => zr [v2, (nth v1 1)]
theorem e63 : denFn prog f63 [] = a63 := by kernel_rfl
def a65x0 (bn c5 : AV) : AC := zb .add c5 (I 1) fun c6 => zf 0 bn fun c7 => zs c7 c6 fun c8 => zm []
def a65x1 (v0 : List AV) (bn bz : AV) : AC := zl bz fun c0 => zc 99 [(nth v0 0), c0] fun c1 => zf 1 bn fun c2 => zs c2 c1 fun c3 => zf 0 bn fun c4 => zl c4 fun c5 => (a65x0 bn c5)
def a65x2 (v0 : List AV) (v1 bn bx : AV) : AC := .ite bx (.bind (zf 1 v1 fun bz => (a65x1 v0 bn bz)) (some 1) (fun bz => zm []) (fun bz => [])) (.ret (.exit 0) [])
def a65x3 (v0 : List AV) (v1 bn bq br : AV) : AC := zl br fun bs => zb .lss bq bs fun bt => zt bt (.faddr 1 bn) fun bu => zt bt (.load 1 false bu) fun bv => zt bt (.un .not bv) fun bw => zi bt bw (B false) fun bx => (a65x2 v0 v1 bn bx)
def a65x4 (v0 : List AV) (v1 bn : AV) : AC := .loop [] (fun bo => zf 0 bn fun bp => zl bp fun bq => zf 2 v1 fun br => (a65x3 v0 v1 bn bq br)) (fun bo => [])
def a65x5 (c0 c2 : AV) : AC := .op (.store 2 c2 c0) fun c3 => zm []
def a65x6 (bn bt bv bw : AV) : AC := zc 100 [bt] fun bx => .chk (.load 1 false bv) bw (zf 2 bn fun bz => zc 101 [bw] fun c0 => zs bz bx fun c1 => zf 3 bn fun c2 => (a65x5 c0 c2))
def a65x7 (bk bn : AV) : AC := zn bk fun br => zf 0 br fun bs => zl bs fun bt => zn bk fun bu => zf 0 bu fun bv => zl bv fun bw => (a65x6 bn bt bv bw)
def a65x8 (v2 bs : AV) : AC := .op (.store 5 v2 bs) fun bt => zr [v2, (I 0)]
def a65x9 (v2 bk bn : AV) : AC := zf 1 bn fun bp => zl bp fun bq => .bind (.ite bq (a65x7 bk bn) (zm [])) none (fun br => .op (.load 5 true bn) fun bs => (a65x8 v2 bs)) (fun br => [v2, (I 0)])
def a65x10 (v0 : List AV) (v1 v2 bk bl : AV) : AC := .op (.un .not bl) fun bm => .ite bm (.op (.build [(I 0), (B false), (I 0), (I 0), (U 0)] []) fun bn => .op (.store 5 v2 bn) fun bo => zr [v2, (I 15)]) (.op (.alloc [(I 0), (B false), (I 0), (I 0), (U 0)]) fun bn => .bind (a65x4 v0 v1 bn) (some 0) (fun bo => (a65x9 v2 bk bn)) (fun bo => [v2, (I 0)]))
def a65x11 (v0 : List AV) (v1 v2 bf : AV) : AC := zl bf fun bg => zf 1 v1 fun bh => zl bh fun bi => .op (.lookup 3 true Np bg bi) fun bj => .op (.extract 0 bj) fun bk => .op (.extract 1 bj) fun bl => (a65x10 v0 v1 v2 bk bl)
def a65x12 (v0 : List AV) (v1 v2 b9 bb : AV) : AC := zu b9 (.bin .gtr bb (I 1000)) fun bc => zi b9 (B true) bc fun bd => .ite bd (.op (.build [(I 0), (B false), (I 0), (I 0), (U 0)] []) fun be => .op (.store 5 v2 be) fun bf => zr [v2, (I 3)]) (zn (nth v0 0) fun be => zf 33 be fun bf => (a65x11 v0 v1 v2 bf))
def a65x13 (v0 : List AV) (v1 v2 b5 : AV) : AC := zu b5 (.faddr 2 v1) fun b6 => zu b5 (.load 1 false b6) fun b7 => zu b5 (.bin .lss b7 (I 1)) fun b8 => zi b5 (B true) b8 fun b9 => zu b9 (.faddr 2 v1) fun ba => zu b9 (.load 1 false ba) fun bb => (a65x12 v0 v1 v2 b9 bb)
def a65x14 (v0 : List AV) (v1 v2 v5 v7 v9 : AV) : AC := zu v5 (.faddr 0 v9) fun b0 => zu v5 (.faddr 23 b0) fun b1 => zu v5 (.faddr 2 b1) fun b2 => zu v5 (.load 1 false b2) fun b3 => zu v5 (.bin .geq v7 b3) fun b4 => zi v5 (B true) b4 fun b5 => (a65x13 v0 v1 v2 b5)
def a65x15 (v0 : List AV) (v1 v2 v3 : AV) : AC := zl v3 fun v4 => zb .lss v4 (I 0) fun v5 => zu v5 (.faddr 1 v1) fun v6 => zu v5 (.load 1 false v6) fun v7 => zu v5 (.mv (nth v0 0)) fun v8 => zu v5 (.nilchk v8) fun v9 => (a65x14 v0 v1 v2 v5 v7 v9)
def a65 : List AV → AC := fun v0 => .fin (.op (.box (nth v0 1)) fun v1 => .op (.alloc [(I 0), (B false), (I 0), (I 0), (U 0)]) fun v2 => zf 1 v1 fun v3 => (a65x15 v0 v1 v2 v3)) fun v1 => .op (.load 5 true (nth v1 0)) fun v2 => zr [v2, (nth v1 1)]
theorem e65 : denFn prog f65 [5] = a65 := by kernel_rfl
def a66x0 (v2 bl : AV) : AC := .op (.build [(I 0), (B false), (I 0), (I 0), (U 0)] []) fun bn => .op (.store 5 v2 bn) fun bo => .ret .ret [v2, bl]
def a66x1 (v2 bk c1 c3 : AV) : AC := .op (.store 1 c3 c1) fun c4 => .op (.len false bk) fun c5 => .op (.build [(I 0), (B false), (I 0), (I 0), (U 0)] [(0, 1, c5)]) fun c6 => .op (.store 5 v2 c6) fun c7 => .ret .ret [v2, (I 0)]
def a66x2 (v0 : List AV) (v2 bk : AV) : AC := .op (.nilchk (nth v0 0)) fun bx => .op (.faddr 34 bx) fun bz => .op (.load 1 false bz) fun c0 => .op (.append 2 16 c0 bk) fun c1 => .op (.nilchk (nth v0 0)) fun c2 => .op (.faddr 34 c2) fun c3 => (a66x1 v2 bk c1 c3)
def a66x3 (v0 : List AV) (v2 ba bk bs : AV) : AC := .op (.bin .gtr bs (I 4096)) fun bt => .ite bt (.op (.build [(I 0), (B false), (I 0), (I 0), (U 0)] []) fun bu => .op (.store 5 v2 bu) fun bv => .ret .ret [v2, (I 7)]) (.op (.nilchk (nth v0 0)) fun bu => .op (.faddr 32 bu) fun bv => .op (.store 1 bv ba) fun bw => (a66x2 v0 v2 bk))
def a66x4 (v0 : List AV) (v2 ba bk : AV) : AC := .op (.nilchk (nth v0 0)) fun bn => .op (.faddr 34 bn) fun bo => .op (.load 1 false bo) fun bp => .op (.len false bp) fun bq => .op (.len false bk) fun br => .op (.bin .add bq br) fun bs => (a66x3 v0 v2 ba bk bs)
def a66x5 (v0 : List AV) (v2 ba be bi : AV) : AC := .call (.fn (.func 103) [] []) [ba, be, bi] fun bj => .op (.extract 0 bj) fun bk => .op (.extract 1 bj) fun bl => .op (.bin .neq bl (I 0)) fun bm => .ite bm (a66x0 v2 bl) (a66x4 v0 v2 ba bk)
def a66x6 (v0 : List AV) (v1 v2 ba bd be : AV) : AC := .op (.faddr 2 v1) fun bf => .op (.load 1 false bf) fun bg => .call (.fn (.func 17) [] []) [(nth v0 0)] fun bh => .chk (.load 1 false bd) be (.chk (.load 1 false bf) bg (.op (.bin .add bh bg) fun bi => (a66x5 v0 v2 ba be bi)))
def a66x7 (v0 : List AV) (v1 v2 b8 : AV) : AC := .op (.load 1 false b8) fun b9 => .call (.fn (.func 102) [] []) [b9] fun ba => .op (.nilchk (nth v0 0)) fun bb => .op (.faddr 0 bb) fun bc => .op (.faddr 28 bc) fun bd => .op (.load 1 false bd) fun be => (a66x6 v0 v1 v2 ba bd be)
def a66x8 (v0 : List AV) (v1 v2 v9 b1 b4 : AV) : AC := .gop v9 false (.bin .gtr b1 b4) fun b5 => .op (.pick v9 (B true) b5) fun b6 => .ite b6 (.op (.build [(I 0), (B false), (I 0), (I 0), (U 0)] []) fun b7 => .op (.store 5 v2 b7) fun b8 => .ret .ret [v2, (I 3)]) (.op (.nilchk (nth v0 0)) fun b7 => .op (.faddr 32 b7) fun b8 => (a66x7 v0 v1 v2 b8))
def a66x9 (v0 : List AV) (v1 v2 v9 : AV) : AC := .gop v9 false (.faddr 2 v1) fun b0 => .gop v9 false (.load 1 false b0) fun b1 => .gop v9 false (.mv (nth v0 0)) fun b2 => .gcall v9 false (.fn (.func 17) [] []) [b2] fun b3 => .gchk v9 false (.load 1 false b0) b1 (.gop v9 false (.bin .sub (I 1099511627776) b3) fun b4 => (a66x8 v0 v1 v2 v9 b1 b4))
def a66x10 (v0 : List AV) (v1 v2 v3 : AV) : AC := .op (.load 1 false v3) fun v4 => .op (.bin .lss v4 (I 0)) fun v5 => .gop v5 false (.faddr 2 v1) fun v6 => .gop v5 false (.load 1 false v6) fun v7 => .gop v5 false (.bin .gtr v7 (I 1073741824)) fun v8 => .op (.pick v5 (B true) v8) fun v9 => (a66x9 v0 v1 v2 v9)
def a66 : List AV → AC := fun v0 => .fin (.op (.box (nth v0 1)) fun v1 => .op (.alloc [(I 0), (B false), (I 0), (I 0), (U 0)]) fun v2 => .op (.faddr 2 v1) fun v3 => (a66x10 v0 v1 v2 v3)) fun v1 => .op (.load 5 true (nth v1 0)) fun v2 => .ret .ret [v2, (nth v1 1)]
theorem e66 : denFn prog f66 [5] = a66 := by kernel_rfl
def a67x0 (v2 v3 : AV) : AC := .op (.load 5 true v3) fun bc => .op (.store 5 v2 bc) fun bd => zr [(I 0)]
def a67x1 (v0 : List AV) (v2 v3 : AV) (v9 : List AV) : AC := zc 104 [(nth v0 0), (nth v9 0), v3] fun b8 => .op (.extract 0 b8) fun b9 => .op (.extract 1 b8) fun ba => .op (.un .not ba) fun bb => .ite bb (a67x0 v2 v3) (zm [(nth v9 1)])
def a67x2 (v0 : List AV) (v2 v3 : AV) (v9 : List AV) (b3 : AV) : AC := .op (.lookup 3 true Np b3 (nth v9 0)) fun b4 => .op (.extract 0 b4) fun b5 => .op (.extract 1 b4) fun b6 => .op (.un .not b6) fun b7 => .ite b7 (.ret (.exit 1) [(nth v9 1)]) (a67x1 v0 v2 v3 v9)
def a67x3 (v0 : List AV) (v2 v3 : AV) (v9 : List AV) : AC := .bind (zn (nth v0 0) fun b1 => zf 33 b1 fun b2 => zl b2 fun b3 => (a67x2 v0 v2 v3 v9 b3)) (some 1) (fun b1 => zb .add (nth v9 0) (I 1) fun b2 => zm [b2, (nth b1 0)]) (fun b1 => [(nth v9 0), (nth b1 0)])
def a67x4 (v0 : List AV) (v2 v3 v8 : AV) : AC := .loop [(I 0), (I 0)] (fun v9 => zb .lss (nth v9 0) v8 fun b0 => .ite b0 (a67x3 v0 v2 v3 v9) (.ret (.exit 0) [(nth v9 0), (nth v9 1)])) (fun v9 => [(nth v9 0), (nth v9 1)])
def a67x5 (bd : List AV) (br : AV) : AC := zi (nth bd 1) (B true) br fun bs => zm [bs, (nth bd 2)]
def a67x6 (v2 v3 : AV) (bd : List AV) (bm bn : AV) : AC := .op (.extract 1 bm) fun bo => .op (.un .not bo) fun bp => .ite bp (.op (.load 5 true v3) fun bq => .op (.store 5 v2 bq) fun br => zr [(nth bd 1), (I 0)]) (zu (nth bd 1) (.mv bn) fun bq => zu (nth bd 1) (.bin .eql bq (I 0)) fun br => (a67x5 bd br))
def a67x7 (v0 : List AV) (v2 v3 : AV) (bd : List AV) (bh : AV) : AC := zb .quo (nth bd 0) (I 3) fun bi => .op (.build [(I 0), (I 0), (I 0)] [(1, 1, bi)]) fun bj => .call bh [(nth v0 0), bj] fun bk => zb .quo (nth bd 0) (I 3) fun bl => zc 104 [(nth v0 0), bl, v3] fun bm => .op (.extract 0 bm) fun bn => (a67x6 v2 v3 bd bm bn)
def a67x8 (v0 : List AV) (v2 v3 b0 : AV) (bd : List AV) : AC := .bind (zb .rem (nth bd 0) (I 3) fun bf => .op (.saddr 1 b0 bf) fun bg => zl bg fun bh => (a67x7 v0 v2 v3 bd bh)) (some 5) (fun bf => zb .add (nth bd 0) (I 1) fun bg => zm [bg, (nth bf 0), (nth bf 1)]) (fun bf => [(nth bd 0), (nth bf 0), (nth bf 1)])
def a67x9 (v0 : List AV) (v2 v3 b0 : AV) (b5 : List AV) (bc : AV) : AC := .loop [(I 0), (B false), (nth b5 1)] (fun bd => zb .lss (nth bd 0) bc fun be => .ite be (a67x8 v0 v2 v3 b0 bd) (.ret (.exit 4) [(nth bd 0), (nth bd 1), (nth bd 2)])) (fun bd => [(nth bd 0), (nth bd 1), (nth bd 2)])
def a67x10 (v3 : AV) (bd : List AV) : AC := .op (.un .not (nth bd 1)) fun be => .ite be (zf 1 v3 fun bf => zs bf (B true) fun bg => .ret (.exit 2) [(nth bd 2), (nth bd 0), (nth bd 1)]) (zm [(nth bd 2), (nth bd 0), (nth bd 1)])
def a67x11 (v0 : List AV) (v2 v3 b0 : AV) (b5 : List AV) (b9 : AV) : AC := zf 2 b9 fun ba => zl ba fun bb => zb .mul (I 3) bb fun bc => .bind (a67x9 v0 v2 v3 b0 b5 bc) (some 4) (fun bd => (a67x10 v3 bd)) (fun bd => [(nth bd 2), (nth bd 0), (nth bd 1)])
def a67x12 (v0 : List AV) (v2 v3 b0 : AV) (b5 : List AV) : AC := .bind (zn (nth v0 0) fun b7 => zf 0 b7 fun b8 => zf 23 b8 fun b9 => (a67x11 v0 v2 v3 b0 b5 b9)) (some 3) (fun b7 => zb .add (nth b5 0) (I 1) fun b8 => zm [b8, (nth b7 0), (nth b7 1), (nth b7 2)]) (fun b7 => [(nth b5 0), (nth b7 0), (nth b7 1), (nth b7 2)])
def a67x13 (v0 : List AV) (v2 v3 : AV) (v9 : List AV) (b0 b4 : AV) : AC := .loop [(I 0), (nth v9 1), .no, .no] (fun b5 => zb .lss (nth b5 0) b4 fun b6 => .ite b6 (a67x12 v0 v2 v3 b0 b5) (.ret (.exit 2) [(nth b5 0), (nth b5 1), (nth b5 2), (nth b5 3)])) (fun b5 => [(nth b5 0), (nth b5 1), (nth b5 2), (nth b5 3)])
def a67x14 (v2 v3 : AV) : AC := .op (.load 5 true v3) fun b6 => .op (.store 5 v2 b6) fun b7 => zr [v2, (I 0)]
def a67x15 (v0 : List AV) (v2 v3 : AV) (v9 : List AV) : AC := .op (.bslice 1 3 [Nf] [(0, 1, (zF 63)), (1, 1, (zF 61)), (2, 1, (zF 62))]) fun b0 => zn (nth v0 0) fun b1 => zf 0 b1 fun b2 => .op (.load 29 true b2) fun b3 => zc 105 [b3] fun b4 => .bind (a67x13 v0 v2 v3 v9 b0 b4) (some 2) (fun b5 => (a67x14 v2 v3)) (fun b5 => [v2, (nth b5 1)])
def a67x16 (v0 : List AV) (v2 v3 : AV) : AC := zn (nth v0 0) fun v4 => zf 0 v4 fun v5 => zf 23 v5 fun v6 => zf 2 v6 fun v7 => zl v7 fun v8 => .bind (a67x4 v0 v2 v3 v8) (some 0) (fun v9 => (a67x15 v0 v2 v3 v9)) (fun v9 => [v2, (nth v9 1)])
def a67 : List AV → AC := fun v0 => .fin (.op (.box (nth v0 1)) fun v1 => .op (.alloc [(I 0), (B false), (I 0), (I 0), (U 0)]) fun v2 => .op (.alloc [(I 0), (B false), (I 0), (I 0), (U 0)]) fun v3 => (a67x16 v0 v2 v3)) fun v1 => .op (.load 5 true (nth v1 0)) fun v2 => zr [v2, (nth v1 1)]
theorem e67 : denFn prog f67 [5, 23, 53, 13, 62] = a67 := by kernel_rfl
def a68 : List AV → AC := fun v0 => zc 106 [(nth v0 0)] fun v1 => zc 107 [v1, (zF 87)] fun v2 => .op (.len false v1) fun v3 => .op (.minmax true [(nth v0 1), (I 0)]) fun v4 => .op (.minmax false [v3, v4]) fun v5 => .op (.sslice 4 v1 none (some v5) none) fun v6 => zr [v6]
theorem e68 : denFn prog f68 [] = a68 := by kernel_rfl
def a69x0 (v2 v6 hv : AV) : AC := .chk (.load 1 false v6) hv (zr [v2, hv, (I 0)])
def a69x1 (v2 v6 b2 ho hp hq : AV) : AC := zs hq ho fun hr => zf 27 b2 fun hs => zs hs hp fun ht => .op (.load 29 true b2) fun hu => zl v6 fun hv => .op (.store 29 v2 hu) fun hw => (a69x0 v2 v6 hv)
def a69x2 (v1 v2 v6 b2 ha hk : AV) : AC := zs hk ha fun hl => zf 0 v1 fun hm => zl hm fun hn => .call (.fn (.func 109) [] [v6]) [hn] fun ho => .call (.fn (.func 109) [] [v6]) [(I 1)] fun hp => zf 26 b2 fun hq => (a69x1 v2 v6 b2 ho hp hq)
def a69x3 (v1 v2 v6 b2 h9 ha hc : AV) : AC := zf 23 b2 fun hg => zf 1 hg fun hh => zs hh hc fun hi => .chk (.load 1 false h9) ha (zf 23 b2 fun hj => zf 2 hj fun hk => (a69x2 v1 v2 v6 b2 ha hk))
def a69x4 (v1 v2 v6 b2 h8 h9 ha hb : AV) : AC := .call (.fn (.func 109) [] [v6]) [h8] fun hc => .chk (.load 1 false h9) ha (zf 23 b2 fun hd => zf 0 hd fun he => zs he hb fun hf => .chk (.load 1 false h9) ha (a69x3 v1 v2 v6 b2 h9 ha hc))
def a69x5 (v1 v2 v6 b2 h6 h7 : AV) : AC := zl h7 fun h8 => zf 0 v1 fun h9 => zl h9 fun ha => .call (.fn (.func 109) [] [v6]) [h6] fun hb => .chk (.load 1 false h7) h8 (.chk (.load 1 false h9) ha (a69x4 v1 v2 v6 b2 h8 h9 ha hb))
def a69x6 (v1 v2 v6 b2 gu : AV) : AC := zf 20 b2 fun h2 => zf 2 h2 fun h3 => zs h3 gu fun h4 => zf 0 v1 fun h5 => zl h5 fun h6 => zf 0 v1 fun h7 => (a69x5 v1 v2 v6 b2 h6 h7)
def a69x7 (v1 v2 v6 b2 gr gs gt gu : AV) : AC := .chk (.load 1 false gr) gs (.chk (.load 1 false gt) gu (zf 20 b2 fun gz => zf 1 gz fun h0 => zs h0 gs fun h1 => .chk (.load 1 false gt) gu (a69x6 v1 v2 v6 b2 gu)))
def a69x8 (v1 v2 v6 b2 gq gr gs gt gu : AV) : AC := .call (.fn (.func 109) [] [v6]) [gq] fun gv => .chk (.load 1 false gr) gs (.chk (.load 1 false gt) gu (zf 20 b2 fun gw => zf 0 gw fun gx => zs gx gv fun gy => (a69x7 v1 v2 v6 b2 gr gs gt gu)))
def a69x9 (v1 v2 v6 b2 gm go : AV) : AC := zb .add go (I 2) fun gp => zb .mul gm gp fun gq => zf 0 v1 fun gr => zl gr fun gs => zf 4 v1 fun gt => zl gt fun gu => (a69x8 v1 v2 v6 b2 gq gr gs gt gu)
def a69x10 (v1 v2 v6 b2 g6 gi : AV) : AC := zf 2 gi fun gj => zs gj g6 fun gk => zf 0 v1 fun gl => zl gl fun gm => zf 4 v1 fun gn => zl gn fun go => (a69x9 v1 v2 v6 b2 gm go)
def a69x11 (v1 v2 v6 b2 g5 g6 g8 gd : AV) : AC := zf 2 gd fun ge => zf 1 ge fun gf => zs gf g8 fun gg => .chk (.load 1 false g5) g6 (zf 15 b2 fun gh => zf 2 gh fun gi => (a69x10 v1 v2 v6 b2 g6 gi))
def a69x12 (v1 v2 v6 b2 g5 g6 g7 g8 : AV) : AC := zf 15 b2 fun g9 => zf 2 g9 fun ga => zf 0 ga fun gb => zs gb g7 fun gc => .chk (.load 1 false g5) g6 (zf 15 b2 fun gd => (a69x11 v1 v2 v6 b2 g5 g6 g8 gd))
def a69x13 (v1 v2 v6 b2 g3 g4 g5 : AV) : AC := zl g5 fun g6 => .call (.fn (.func 109) [] [v6]) [(I 1)] fun g7 => .chk (.load 1 false g3) g4 (.chk (.load 1 false g5) g6 (.call (.fn (.func 109) [] [v6]) [g4] fun g8 => .chk (.load 1 false g5) g6 (a69x12 v1 v2 v6 b2 g5 g6 g7 g8)))
def a69x14 (v1 v2 v6 b2 dw : AV) : AC := zf 15 b2 fun g0 => zf 1 g0 fun g1 => zs g1 dw fun g2 => zf 1 v1 fun g3 => zl g3 fun g4 => zf 1 v1 fun g5 => (a69x13 v1 v2 v6 b2 g3 g4 g5)
def a69x15 (v1 v2 v6 b2 ds dt du : AV) : AC := .call (.fn (.func 109) [] [v6]) [ds] fun dv => .chk (.load 1 false dt) du (.call (.fn (.func 109) [] [v6]) [du] fun dw => zf 15 b2 fun dx => zf 0 dx fun dy => zs dy dv fun dz => (a69x14 v1 v2 v6 b2 dw))
def a69x16 (v1 v2 v6 b2 di dn : AV) : AC := zf 1 dn fun dp => zs dp di fun dq => zf 1 v1 fun dr => zl dr fun ds => zf 1 v1 fun dt => zl dt fun du => (a69x15 v1 v2 v6 b2 ds dt du)
def a69x17 (v1 v2 v6 b2 dg dh di dj : AV) : AC := .chk (.load 1 false dg) dh (zf 13 b2 fun dk => zf 0 dk fun dl => zs dl dj fun dm => .chk (.load 1 false dg) dh (zf 13 b2 fun dn => (a69x16 v1 v2 v6 b2 di dn)))
def a69x18 (v1 v2 v6 b2 dd : AV) : AC := zl dd fun de => .op (.len false de) fun df => zf 6 v1 fun dg => zl dg fun dh => .op (.len false dh) fun di => .call (.fn (.func 109) [] [v6]) [df] fun dj => (a69x17 v1 v2 v6 b2 dg dh di dj)
def a69x19 (v1 v2 v6 b2 d4 d7 : AV) : AC := zb .mul d4 d7 fun d8 => .call (.fn (.func 109) [] [v6]) [d8] fun d9 => zf 0 b2 fun da => zf 0 da fun db => zs db d9 fun dc => zf 6 v1 fun dd => (a69x18 v1 v2 v6 b2 dd)
def a69x20 (v1 v2 v6 b2 cw d1 : AV) : AC := zs d1 cw fun d2 => zf 2 v1 fun d3 => zl d3 fun d4 => zf 3 v1 fun d5 => zl d5 fun d6 => zb .add (I 4) d6 fun d7 => (a69x19 v1 v2 v6 b2 d4 d7)
def a69x21 (v1 v2 v6 b2 cs ct cw : AV) : AC := .chk (.load 1 false cs) ct (zf 0 b2 fun cx => zf 2 cx fun cy => zs cy ct fun cz => zf 0 b2 fun d0 => zf 1 d0 fun d1 => (a69x20 v1 v2 v6 b2 cw d1))
def a69x22 (v1 v2 v6 b2 cn cq : AV) : AC := zs cq cn fun cr => zf 3 v1 fun cs => zl cs fun ct => zf 3 v1 fun cu => zl cu fun cv => .call (.fn (.func 109) [] [v6]) [cv] fun cw => (a69x21 v1 v2 v6 b2 cs ct cw)
def a69x23 (v1 v2 v6 b2 cb ck : AV) : AC := zf 2 ck fun cl => zs cl cb fun cm => .call (.fn (.func 109) [] [v6]) [(I 3)] fun cn => zf 0 b2 fun co => zf 3 co fun cp => zf 9 cp fun cq => (a69x22 v1 v2 v6 b2 cn cq)
def a69x24 (v1 v2 v6 b2 c7 ca cb cd : AV) : AC := .chk (.load 1 false ca) cb (zn c7 fun ch => zf 1 ch fun ci => zs ci cd fun cj => .chk (.load 1 false ca) cb (zn c7 fun ck => (a69x23 v1 v2 v6 b2 cb ck)))
def a69x25 (v1 v2 v6 b2 c7 c9 ca cb cc : AV) : AC := .chk (.load 1 false ca) cb (.call (.fn (.func 109) [] [v6]) [c9] fun cd => .chk (.load 1 false ca) cb (zn c7 fun ce => zf 0 ce fun cf => zs cf cc fun cg => (a69x24 v1 v2 v6 b2 c7 ca cb cd)))
def a69x26 (v1 v2 v6 b2 c7 : AV) : AC := zf 0 v1 fun c8 => zl c8 fun c9 => zf 0 v1 fun ca => zl ca fun cb => .call (.fn (.func 109) [] [v6]) [(I 1)] fun cc => .chk (.load 1 false c8) c9 (a69x25 v1 v2 v6 b2 c7 c9 ca cb cc)
def a69x27 (v1 v2 v6 b2 b6 bs : AV) : AC := zn b6 fun c2 => zf 5 c2 fun c3 => zs c3 bs fun c4 => zf 0 b2 fun c5 => zf 3 c5 fun c6 => zf 6 c6 fun c7 => (a69x26 v1 v2 v6 b2 c7)
def a69x28 (v1 v2 v6 b2 b6 br bs bt bu bw : AV) : AC := zs bw bt fun bx => .chk (.load 1 false br) bs (zn b6 fun bz => zf 4 bz fun c0 => zs c0 bu fun c1 => .chk (.load 1 false br) bs (a69x27 v1 v2 v6 b2 b6 bs))
def a69x29 (v1 v2 v6 b2 b6 bq br bs : AV) : AC := .call (.fn (.func 109) [] [v6]) [bq] fun bt => .chk (.load 1 false br) bs (.call (.fn (.func 109) [] [v6]) [(I 1)] fun bu => .chk (.load 1 false br) bs (zn b6 fun bv => zf 3 bv fun bw => (a69x28 v1 v2 v6 b2 b6 br bs bt bu bw)))
def a69x30 (v1 v2 v6 b2 b6 ba bm : AV) : AC := zf 2 bm fun bn => zs bn ba fun bo => zf 2 v1 fun bp => zl bp fun bq => zf 5 v1 fun br => zl br fun bs => (a69x29 v1 v2 v6 b2 b6 bq br bs)
def a69x31 (v1 v2 v6 b2 b6 b9 ba bc bh : AV) : AC := zf 0 bh fun bi => zf 1 bi fun bj => zs bj bc fun bk => .chk (.load 1 false b9) ba (zn b6 fun bl => zf 0 bl fun bm => (a69x30 v1 v2 v6 b2 b6 ba bm))
def a69x32 (v1 v2 v6 b2 b6 b9 ba bb bc : AV) : AC := zn b6 fun bd => zf 0 bd fun be => zf 0 be fun bf => zs bf bb fun bg => .chk (.load 1 false b9) ba (zn b6 fun bh => (a69x31 v1 v2 v6 b2 b6 b9 ba bc bh))
def a69x33 (v1 v2 v6 b2 b6 b7 b8 b9 : AV) : AC := zl b9 fun ba => .call (.fn (.func 109) [] [v6]) [(I 1)] fun bb => .chk (.load 1 false b7) b8 (.chk (.load 1 false b9) ba (.call (.fn (.func 109) [] [v6]) [b8] fun bc => .chk (.load 1 false b9) ba (a69x32 v1 v2 v6 b2 b6 b9 ba bb bc)))
def a69x34 (v1 v2 v6 b2 : AV) : AC := zf 0 b2 fun b4 => zf 3 b4 fun b5 => zf 0 b5 fun b6 => zf 2 v1 fun b7 => zl b7 fun b8 => zf 2 v1 fun b9 => (a69x33 v1 v2 v6 b2 b6 b7 b8 b9)
def a69x35 (v1 v2 v6 : AV) : AC := zf 6 v1 fun v8 => zl v8 fun v9 => zc 40 [v9] fun b0 => .op (.build [(I 0), (I 0), (I 0), (I 0), (I 0), (I 0), (I 0), (I 0), (I 0), (I 0), (I 0), (I 0), (I 0), (I 0), (I 0), (I 0), (I 0), (I 0), (I 0), (I 0), (I 0), (I 0), (I 0), (I 0), (I 0), (I 0), (I 0), (I 0), Ns] [(28, 1, b0)]) fun b1 => .op (.alloc [(I 0), (I 0), (I 0), (I 0), (I 0), (I 0), (I 0), (I 0), (I 0), (I 0), (I 0), (I 0), (I 0), (I 0), (I 0), (I 0), (I 0), (I 0), (I 0), (I 0), (I 0), (I 0), (I 0), (I 0), (I 0), (I 0), (I 0), (I 0), Ns]) fun b2 => .op (.store 29 b2 b1) fun b3 => (a69x34 v1 v2 v6 b2)
def a69x36 (v1 v2 v3 : AV) : AC := zc 108 [v3] fun v4 => zb .neq v4 (I 0) fun v5 => .ite v5 (.op (.build [(I 0), (I 0), (I 0), (I 0), (I 0), (I 0), (I 0), (I 0), (I 0), (I 0), (I 0), (I 0), (I 0), (I 0), (I 0), (I 0), (I 0), (I 0), (I 0), (I 0), (I 0), (I 0), (I 0), (I 0), (I 0), (I 0), (I 0), (I 0), Ns] []) fun v6 => .op (.store 29 v2 v6) fun v7 => zr [v2, (I 0), v4]) (.op (.alloc [(I 0)]) fun v6 => zs v6 (I 0) fun v7 => (a69x35 v1 v2 v6))
def a69 : List AV → AC := fun v0 => .fin (.op (.box (nth v0 0)) fun v1 => .op (.alloc [(I 0), (I 0), (I 0), (I 0), (I 0), (I 0), (I 0), (I 0), (I 0), (I 0), (I 0), (I 0), (I 0), (I 0), (I 0), (I 0), (I 0), (I 0), (I 0), (I 0), (I 0), (I 0), (I 0), (I 0), (I 0), (I 0), (I 0), (I 0), Ns]) fun v2 => .op (.load 7 true v1) fun v3 => (a69x36 v1 v2 v3)) fun v1 => .op (.load 29 true (nth v1 0)) fun v2 => zr [v2, (nth v1 1), (nth v1 2)]
theorem e69 : denFn prog f69 [3, 4] = a69 := by kernel_rfl
def a70x0 (v4 : AV) : AC := .op (.box v4) fun v5 => .op (.build [Np] [(0, 1, v5)]) fun v6 => .op (.box v6) fun v7 => zr [v7, (I 0)]
def a70 : List AV → AC := fun v0 => .op (.len false (nth v0 0)) fun v1 => zb .gtr v1 (I 4096) fun v2 => .ite v2 (zr [Np, (I 4)]) (zc 110 [(nth v0 0)] fun v3 => .op (.build [Ns, (I 0)] [(0, 1, v3)]) fun v4 => (a70x0 v4))
theorem e70 : denFn prog f70 [2, 3] = a70 := by kernel_rfl
def a71x0 (v0 : List AV) : AC := .op (.alloc (List.replicate 4096 (U 0))) fun v5 => .op (.build [Np, (I 0), (I 0), (I 0), (U 0), (U 0), (B false), (I 0)] [(0, 1, v5), (1, 1, (nth v0 0))]) fun v6 => .op (.box v6) fun v7 => zr [v7, (I 0)]
def a71 : List AV → AC := fun v0 => zb .lss (nth v0 0) (I 1) fun v1 => zu v1 (.mv (nth v0 0)) fun v2 => zu v1 (.bin .gtr v2 (I 4096)) fun v3 => zi v1 (B true) v3 fun v4 => .ite v4 (zr [Np, (I 3)]) (a71x0 v0)
theorem e71 : denFn prog f71 [2, 3] = a71 := by kernel_rfl
def a72x0 (v0 : List AV) (v1 : AV) (bd : List AV) : AC := zf 26 v1 fun bf => zl bf fun bg => zb .add bg (nth bd 0) fun bh => zc 116 [(nth v0 1), bh, (U 0)] fun bi => zm []
def a72x1 (bd : List AV) : AC := zb .add (nth bd 0) (I 1) fun bg => zm [bg]
def a72x2 (v0 : List AV) (v1 bc : AV) (bd : List AV) : AC := zb .lss (nth bd 0) bc fun be => .ite be (.bind (a72x0 v0 v1 bd) (some 1) (fun bf => (a72x1 bd)) (fun bf => [(nth bd 0)])) (.ret (.exit 0) [(nth bd 0)])
def a72x3 (v0 : List AV) (v1 bc : AV) : AC := .bind (.loop [(I 0)] (fun bd => (a72x2 v0 v1 bc bd)) (fun bd => [(nth bd 0)])) (some 0) (fun bd => zf 27 v1 fun be => zl be fun bf => zc 116 [(nth v0 1), bf, (U 0)] fun bg => zr []) (fun bd => [])
def a72x4 (v0 : List AV) (v1 : AV) : AC := zf 23 v1 fun b7 => .op (.load 3 true b7) fun b8 => zc 115 [b8, (nth v0 1)] fun b9 => zf 23 v1 fun ba => zf 2 ba fun bb => zl bb fun bc => (a72x3 v0 v1 bc)
def a72x5 (v0 : List AV) (v1 : AV) : AC := zf 15 v1 fun b1 => .op (.load 5 true b1) fun b2 => zc 113 [b2, (nth v0 1)] fun b3 => zf 20 v1 fun b4 => .op (.load 3 true b4) fun b5 => zc 114 [b5, (nth v0 1)] fun b6 => (a72x4 v0 v1)
def a72x6 (v0 : List AV) (v1 : AV) : AC := zf 0 v1 fun v5 => .op (.load 13 true v5) fun v6 => zc 111 [v6, (nth v0 1)] fun v7 => zf 13 v1 fun v8 => .op (.load 2 true v8) fun v9 => zc 112 [v9, (nth v0 1)] fun b0 => (a72x5 v0 v1)
def a72 : List AV → AC := fun v0 => .op (.box (nth v0 0)) fun v1 => .op (.load 29 true v1) fun v2 => zc 53 [v2] fun v3 => .op (.un .not v3) fun v4 => .ite v4 (zr []) (a72x6 v0 v1)
theorem e72 : denFn prog f72 [31] = a72 := by kernel_rfl
def a73x0 (v0 : List AV) : AC := .op (.mkslice 1 8 [Np] (nth v0 0) (nth v0 0)) fun v5 => .op (.build [Ns] [(0, 1, v5)]) fun v6 => .op (.build [Ns, Ns, (I 0)] [(0, 1, v6)]) fun v7 => .op (.box v7) fun v8 => zr [v8, (I 0)]
def a73 : List AV → AC := fun v0 => zb .lss (nth v0 0) (I 1) fun v1 => zu v1 (.mv (nth v0 0)) fun v2 => zu v1 (.bin .gtr v2 (I 64)) fun v3 => zi v1 (B true) v3 fun v4 => .ite v4 (zr [Np, (I 3)]) (a73x0 v0)
theorem e73 : denFn prog f73 [2, 3] = a73 := by kernel_rfl
def a74x0 (v4 : AV) : AC := .op (.box v4) fun v5 => .ret .ret [v5, (I 0)]
def a74 : List AV → AC := fun v0 => .call (.fn (.func 117) [] []) [(nth v0 0)] fun v1 => .op (.un .not v1) fun v2 => .ite v2 (.ret .ret [Np, (I 3)]) (.op (.mkmap) fun v3 => .op (.build [(I 0), (B false), Ns, Ns, Ns, Ns, Ns, Ns, Ns, Ns, Ns, Ns, Ns, Ns, Ns, Ns, Ns, Ns, Ns, Ns, Ns, Ns, Ns, Ns, Ns, Ns, Ns, Ns, Ns, Ns, Ns, Ns, Ns, Ns, Ns, Ns, Ns, Ns, Ns, Ns, Ns, Ns, Ns, Ns, Ns, Ns, Ns, Ns, Ns, Ns, Ns, Ns, Ns, Ns, Ns, Ns, Ns, Ns, Ns, Ns, Ns, Ns, Ns, Ns, Ns, Ns, Ns, Ns, Ns, Ns, Ns, Ns, Ns, Ns, Ns, Ns, Ns, Ns, Ns, Ns, Ns, Ns, Ns, Ns, Ns, Ns, Ns, Ns, Ns, Ns, Ns, Ns, Ns, Ns, Ns, Ns, Ns, Ns, Ns, Ns, Ns, Ns, Ns, Ns, Ns, Ns, Ns, Ns, Ns, Ns, Ns, Ns, Ns, Ns, Ns, Ns, Ns, Ns, Ns, Ns, Ns, Ns, Ns, Ns, Ns, Ns, Ns, Ns, Ns, Ns, Ns, Ns, Ns, Ns, Ns, Ns, Ns, Ns, Ns, Ns, Ns, Ns, Ns, Ns, Ns, Ns, Ns, Ns, Ns, Ns, Ns, Ns, Ns, Ns, Ns, Ns, Ns, Ns, Ns, Ns, Ns, Ns, Ns, Ns, Ns, Ns, Ns, Ns, Ns, Ns, Ns, Ns, Ns, Ns, Ns, Ns, Ns, Ns, Nm] [(0, 1, (nth v0 0)), (1, 1, (B true)), (178, 1, v3)]) fun v4 => (a74x0 v4))
theorem e74 : denFn prog f74 [2, 3] = a74 := by kernel_rfl
def a75x0 (v0 v5 : List AV) (b6 b7 : AV) : AC := .ite b7 (.call (.fn (.func 118) [] []) [(nth v0 0), (nth v5 0), b6] fun b8 => .ret .normal []) (.ret .normal [])
def a75x1 (v0 v5 : List AV) (b1 b2 : AV) : AC := .op (.faddr 0 b2) fun b3 => .op (.load 1 false b3) fun b4 => .call (.fn (.func 45) [] []) [b1, b4] fun b5 => .op (.extract 0 b5) fun b6 => .op (.extract 1 b5) fun b7 => .bind (a75x0 v0 v5 b6 b7) none (fun b8 => .ret .normal []) (fun b8 => [])
def a75x2 (v0 v5 : List AV) : AC := .op (.saddr 4 (nth v0 1) (nth v5 0)) fun v7 => .op (.load 4 true v7) fun v8 => .op (.alloc [(I 0), (I 0), (I 0), (I 0)]) fun v9 => .op (.store 4 v9 v8) fun b0 => .op (.load 4 true v9) fun b1 => .op (.nilchk (nth v0 0)) fun b2 => (a75x1 v0 v5 b1 b2)
def a75x3 (v5 : List AV) : AC := .op (.bin .add (nth v5 0) (I 1)) fun v8 => .ret .normal [v8]
def a75x4 (v0 : List AV) (v4 : AV) (v5 : List AV) : AC := .op (.bin .lss (nth v5 0) v4) fun v6 => .ite v6 (.bind (a75x2 v0 v5) (some 1) (fun v7 => (a75x3 v5)) (fun v7 => [(nth v5 0)])) (.ret (.exit 0) [(nth v5 0)])
def a75x5 (v0 : List AV) : AC := .op (.len false (nth v0 1)) fun v4 => .bind (.loop [(I 0)] (fun v5 => (a75x4 v0 v4 v5)) (fun v5 => [(nth v5 0)])) (some 0) (fun v5 => .ret .ret [(I 0)]) (fun v5 => [(I 0)])
def a75 : List AV → AC := fun v0 => .call (.fn (.func 77) [] []) [(nth v0 0)] fun v1 => .ite v1 (.ret .ret [(I 1)]) (.call (.fn (.func 42) [] []) [(nth v0 1)] fun v2 => .op (.bin .neq v2 (I 0)) fun v3 => .ite v3 (.ret .ret [v2]) (a75x5 v0))
theorem e75 : denFn prog f75 [4, 19] = a75 := by kernel_rfl
def a76x0 (v9 b1 : AV) : AC := zs b1 v9 fun b2 => zr []
def a76x1 (v0 : List AV) (v1 v2 v6 : AV) : AC := .op (.load 9 true v1) fun v7 => .op (.bslice 9 1 [(I 0), (B false), (I 0), (I 0), (I 0), (U 0), (I 0), (I 0), (U 0)] [(0, 9, v7)]) fun v8 => .op (.append 9 72 v6 v8) fun v9 => .chk (.load 1 false (nth v0 1)) v2 (zn v2 fun b0 => zf 35 b0 fun b1 => (a76x0 v9 b1))
def a76 : List AV → AC := fun v0 => .op (.box (nth v0 0)) fun v1 => zl (nth v0 1) fun v2 => zl (nth v0 1) fun v3 => zn v3 fun v4 => zf 35 v4 fun v5 => zl v5 fun v6 => (a76x1 v0 v1 v2 v6)
theorem e76 : denFn prog f76 [] = a76 := by kernel_rfl
def a77x0 (v1 v6 : AV) : AC := .op (.pick v1 (B true) v6) fun v7 => .ret .ret [v7]
def a77 : List AV → AC := fun v0 => .op (.eq 88 false (nth v0 0) Np) fun v1 => .gop v1 false (.mv (nth v0 0)) fun v2 => .gop v1 false (.nilchk v2) fun v3 => .gop v1 false (.faddr 1 v3) fun v4 => .gop v1 false (.load 1 false v4) fun v5 => .gop v1 false (.un .not v5) fun v6 => (a77x0 v1 v6)
theorem e77 : denFn prog f77 [] = a77 := by kernel_rfl
def a78x0 (v1 v7 b0 : AV) : AC := .op (.pick v7 (B true) b0) fun b1 => .gop b1 false (.faddr 3 v1) fun b2 => .gop b1 false (.load 1 false b2) fun b3 => .gop b1 false (.bin .gtr b3 (I 1099511627776)) fun b4 => .op (.pick b1 (B true) b4) fun b5 => .ret .normal [(I 0), b5]
def a78x1 (v1 : AV) : AC := .op (.faddr 2 v1) fun v5 => .op (.load 1 false v5) fun v6 => .op (.bin .lss v6 (I 1)) fun v7 => .gop v7 false (.faddr 3 v1) fun v8 => .gop v7 false (.load 1 false v8) fun v9 => .gop v7 false (.bin .lss v9 (I 0)) fun b0 => (a78x0 v1 v7 b0)
def a78x2 (v1 v8 : AV) : AC := .op (.load 1 false v8) fun v9 => .op (.bin .lss v9 (I 0)) fun b0 => .gop b0 false (.faddr 3 v1) fun b1 => .gop b0 false (.load 1 false b1) fun b2 => .gop b0 false (.bin .neq b2 (I 0)) fun b3 => .op (.pick b0 (B true) b3) fun b4 => .ret .normal [(I 0), b4]
def a78x3 (v1 : AV) : AC := .op (.faddr 0 v1) fun v5 => .op (.load 1 false v5) fun v6 => .op (.bin .eql v6 (I 2)) fun v7 => .ite v7 (.op (.faddr 2 v1) fun v8 => (a78x2 v1 v8)) (.ret .ret [(I 5), (B false)])
def a78x4 (v1 v3 : AV) : AC := .op (.bin .eql v3 (I 1)) fun v4 => .bind (.ite v4 (a78x1 v1) (a78x3 v1)) none (fun v5 => .ret .normal [(nth v5 0), (nth v5 1)]) (fun v5 => [(nth v5 0), (nth v5 1)])
def a78x5 (v1 b0 : AV) : AC := .gop b0 false (.faddr 1 v1) fun b1 => .gop b0 false (.load 1 false b1) fun b2 => .gop b0 false (.bin .gtr b2 (I 254)) fun b3 => .op (.pick b0 (B true) b3) fun b4 => .ite b4 (.ret .ret [(I 3)]) (.ret .ret [(I 0)])
def a78x6 (v1 : AV) (v2 : List AV) (v4 : AV) : AC := .gop (nth v2 1) false (.bin .gtr v4 (I 1099511627776)) fun v5 => .op (.pick (nth v2 1) (B true) v5) fun v6 => .gop v6 false (.faddr 1 v1) fun v7 => .gop v6 false (.load 1 false v7) fun v8 => .gop v6 false (.bin .lss v8 (I 0)) fun v9 => .op (.pick v6 (B true) v9) fun b0 => (a78x5 v1 b0)
def a78 : List AV → AC := fun v0 => .op (.box (nth v0 0)) fun v1 => .bind (.op (.faddr 0 v1) fun v2 => .op (.load 1 false v2) fun v3 => (a78x4 v1 v3)) (some 0) (fun v2 => .gop (nth v2 1) false (.faddr 2 v1) fun v3 => .gop (nth v2 1) false (.load 1 false v3) fun v4 => (a78x6 v1 v2 v4)) (fun v2 => [(nth v2 0)])
theorem e78 : denFn prog f78 [3, 2] = a78 := by kernel_rfl
def a79x0 (v2 v7 b0 b3 : AV) : AC := .op (.pick b0 b3 (B false)) fun b4 => .op (.store 2 v2 v7) fun b5 => .ret .ret [v2, b4]
def a79x1 (v1 v2 v3 v4 v5 v6 v7 v9 : AV) : AC := .op (.bin .eql v9 (I 1)) fun b0 => .gop b0 true (.load 4 true v1) fun b1 => .gcall b0 true (.fn (.func 78) [] []) [b1] fun b2 => .chk (.load 1 false v3) v4 (.chk (.load 1 false v5) v6 (.gop b0 true (.bin .eql b2 (I 0)) fun b3 => (a79x0 v2 v7 b0 b3)))
def a79x2 (v1 v2 v3 : AV) : AC := .op (.load 1 false v3) fun v4 => .op (.faddr 2 v1) fun v5 => .op (.load 1 false v5) fun v6 => .op (.build [(I 0), (I 0)] [(0, 1, v4), (1, 1, v6)]) fun v7 => .op (.faddr 0 v1) fun v8 => .op (.load 1 false v8) fun v9 => (a79x1 v1 v2 v3 v4 v5 v6 v7 v9)
def a79 : List AV → AC := fun v0 => .fin (.op (.box (nth v0 0)) fun v1 => .op (.alloc [(I 0), (I 0)]) fun v2 => .op (.faddr 3 v1) fun v3 => (a79x2 v1 v2 v3)) fun v1 => .op (.load 2 true (nth v1 0)) fun v2 => .ret .ret [v2, (nth v1 1)]
theorem e79 : denFn prog f79 [] = a79 := by kernel_rfl
def a80x0 (v1 : AV) : AC := .op (.load 2 true v1) fun v6 => .call (.fn (.func 119) [] []) [v6] fun v7 => .ret .ret [v7]
def a80x1 (v0 : List AV) (v1 v3 : AV) : AC := .op (.bin .leq (nth v0 1) v3) fun v4 => .ite v4 (.ret .ret [(I 0)]) (.op (.bin .gtr (nth v0 1) (I 1099511627776)) fun v5 => .ite v5 (a80x0 v1) (.ret .normal [(I 0)]))
def a80x2 (b1 b2 b3 b4 : AV) : AC := .chk (.load 1 false b1) b2 (.op (.minmax false [b4, b3]) fun b5 => .ret .ret [b5])
def a80x3 (v1 v3 v4 v5 v7 v8 b0 : AV) : AC := .op (.faddr 1 v1) fun b1 => .op (.load 1 false b1) fun b2 => .op (.bin .quo b0 b2) fun b3 => .call (.fn (.func 119) [] []) [v3] fun b4 => .chk (.load 1 false v4) v5 (.chk (.load 1 false v7) v8 (a80x2 b1 b2 b3 b4))
def a80x4 (v0 : List AV) (v1 v3 v4 : AV) : AC := .op (.load 1 false v4) fun v5 => .op (.bin .sub (nth v0 1) v5) fun v6 => .op (.faddr 1 v1) fun v7 => .op (.load 1 false v7) fun v8 => .op (.bin .add v6 v8) fun v9 => .op (.bin .sub v9 (I 1)) fun b0 => (a80x3 v1 v3 v4 v5 v7 v8 b0)
def a80 : List AV → AC := fun v0 => .op (.box (nth v0 0)) fun v1 => .bind (.op (.faddr 0 v1) fun v2 => .op (.load 1 false v2) fun v3 => (a80x1 v0 v1 v3)) (some 0) (fun v2 => .op (.load 2 true v1) fun v3 => .op (.faddr 0 v1) fun v4 => (a80x4 v0 v1 v3 v4)) (fun v2 => [(nth v2 0)])
theorem e80 : denFn prog f80 [4] = a80 := by kernel_rfl
def a81 : List AV → AC := fun v0 => .op (.box (nth v0 0)) fun v1 => .op (.box (nth v0 1)) fun v2 => .ret .ret [(.fn (.func 120) [] [v2, v1])]
theorem e81 : denFn prog f81 [] = a81 := by kernel_rfl
def a82 : List AV → AC := fun v0 => .op (.box (nth v0 0)) fun v1 => zr [(.fn (.func 121) [] [v1])]
theorem e82 : denFn prog f82 [] = a82 := by kernel_rfl
def a83x0 (v0 : List AV) (v1 : AV) : AC := .op (.load 13 true v1) fun v6 => zc 123 [v6] fun v7 => zc 124 [v7, (nth v0 1), (nth v0 2)] fun v8 => zr [v8]
def a83x1 (v6 b1 : AV) : AC := zi v6 (B true) b1 fun b2 => .ite b2 (zr [(I (-1))]) (zm [(I 0)])
def a83x2 (v0 : List AV) (v1 : AV) : AC := zb .lss (nth v0 2) (I 4) fun v6 => zu v6 (.mv (nth v0 2)) fun v7 => zu v6 (.faddr 2 v1) fun v8 => zu v6 (.load 1 false v8) fun v9 => zu v6 (.bin .add (I 4) v9) fun b0 => zu v6 (.bin .geq v7 b0) fun b1 => (a83x1 v6 b1)
def a83x3 (v0 : List AV) (v1 v3 : AV) : AC := .op (.un .not v3) fun v4 => .ite v4 (zr [(I (-1))]) (zb .neq (nth v0 1) (I (-1)) fun v5 => .ite v5 (a83x0 v0 v1) (a83x2 v0 v1))
def a83x4 (v0 : List AV) (v4 : AV) : AC := zb .sub (nth v0 2) (I 4) fun v5 => zc 126 [v4, (I 0), v5] fun v6 => zr [v6]
def a83 : List AV → AC := fun v0 => .op (.box (nth v0 0)) fun v1 => .bind (.op (.load 13 true v1) fun v2 => zc 122 [v2] fun v3 => (a83x3 v0 v1 v3)) (some 0) (fun v2 => .op (.load 13 true v1) fun v3 => zc 125 [v3] fun v4 => (a83x4 v0 v4)) (fun v2 => [(nth v2 0)])
theorem e83 : denFn prog f83 [6] = a83 := by kernel_rfl
def a84x0 (v5 v6 : AV) : AC := zt v5 (.faddr 2 v6) fun v7 => zt v5 (.load 1 false v7) fun v8 => zt v5 (.bin .leq v8 (I 64)) fun v9 => zi v5 v9 (B false) fun b0 => zr [b0]
def a84 : List AV → AC := fun v0 => .op (.box (nth v0 0)) fun v1 => zf 2 v1 fun v2 => zf 2 v2 fun v3 => zl v3 fun v4 => zb .geq v4 (I 1) fun v5 => zt v5 (.faddr 2 v1) fun v6 => (a84x0 v5 v6)
theorem e84 : denFn prog f84 [] = a84 := by kernel_rfl
def a85x0 (v1 v9 : AV) : AC := .op (.store 3 v1 v9) fun b0 => zr [v1]
def a85x1 (v0 : List AV) (v1 v3 : AV) : AC := zb .shr (nth v0 0) (U 8) fun v4 => zb .and v4 (U 255) fun v5 => .op (.conv .i64 v5) fun v6 => zb .shr (nth v0 0) (U 32) fun v7 => .op (.conv .i64 v7) fun v8 => .op (.build [(I 0), (I 0), (I 0)] [(0, 1, v3), (1, 1, v6), (2, 1, v8)]) fun v9 => (a85x0 v1 v9)
def a85 : List AV → AC := fun v0 => .fin (.op (.alloc [(I 0), (I 0), (I 0)]) fun v1 => zb .and (nth v0 0) (U 255) fun v2 => .op (.conv .i64 v2) fun v3 => (a85x1 v0 v1 v3)) fun v1 => .op (.load 3 true (nth v1 0)) fun v2 => zr [v2]
theorem e85 : denFn prog f85 [] = a85 := by kernel_rfl
def a86 : List AV → AC := fun v0 => .op (.len false (nth v0 0)) fun v1 => .op (.conv .u64 v1) fun v2 => zc 128 [v2] fun v3 => zc 127 [(nth v0 0), (I 0), v1, v3, (nth v0 1)] fun v4 => zr []
theorem e86 : denFn prog f86 [] = a86 := by kernel_rfl
def a88x0 (v5 v8 : AV) (b0 : List AV) (b2 b8 : AV) : AC := .ite b8 (.op (.saddr 1 v5 b2) fun b9 => zl b9 fun ba => .op (.saddr 1 v8 (nth b0 0)) fun bb => zs bb ba fun bc => zm []) (zm [])
def a88x1 (v5 v8 : AV) (b0 : List AV) (b2 b3 b4 : AV) : AC := zt b3 (.mv v5) fun b5 => zt b3 (.len false b5) fun b6 => zt b3 (.bin .lss b4 b6) fun b7 => zi b3 b7 (B false) fun b8 => .bind (a88x0 v5 v8 b0 b2 b8) none (fun b9 => zm []) (fun b9 => [])
def a88x2 (v0 : List AV) (v5 v8 : AV) (b0 : List AV) : AC := .bind (zb .add (nth v0 1) (nth b0 0) fun b2 => zb .geq b2 (I 0) fun b3 => zt b3 (.mv b2) fun b4 => (a88x1 v5 v8 b0 b2 b3 b4)) (some 1) (fun b2 => zb .add (nth b0 0) (I 1) fun b3 => zm [b3]) (fun b2 => [(nth b0 0)])
def a88x3 (v0 : List AV) (v5 v8 v9 : AV) : AC := .loop [(I 0)] (fun b0 => zb .lss (nth b0 0) v9 fun b1 => .ite b1 (a88x2 v0 v5 v8 b0) (.ret (.exit 0) [(nth b0 0)])) (fun b0 => [(nth b0 0)])
def a88x4 (v0 : List AV) (v1 : AV) : AC := zc 54 [(nth v0 2)] fun v5 => zf 2 v1 fun v6 => zl v6 fun v7 => .op (.mkslice 1 8 [(U 0)] v7 v7) fun v8 => .op (.len false v8) fun v9 => .bind (a88x3 v0 v5 v8 v9) (some 0) (fun b0 => zr [v8]) (fun b0 => [Ns])
def a88 : List AV → AC := fun v0 => .op (.box (nth v0 0)) fun v1 => .op (.load 3 true v1) fun v2 => zc 132 [v2] fun v3 => .op (.un .not v3) fun v4 => .ite v4 (zr [Ns]) (a88x4 v0 v1)
theorem e88 : denFn prog f88 [6, 21] = a88 := by kernel_rfl
def a89x0 (v1 v3 v6 : AV) : AC := zi v3 v6 (B false) fun v7 => zt v7 (.faddr 0 v1) fun v8 => zt v7 (.load 1 false v8) fun v9 => zt v7 (.bin .lss v9 (I 4096)) fun b0 => zi v7 b0 (B false) fun b1 => zr [b1]
def a89 : List AV → AC := fun v0 => .op (.box (nth v0 0)) fun v1 => .op (.load 3 true v1) fun v2 => zc 133 [v2] fun v3 => zt v3 (.faddr 0 v1) fun v4 => zt v3 (.load 1 false v4) fun v5 => zt v3 (.bin .geq v5 (I 0)) fun v6 => (a89x0 v1 v3 v6)
theorem e89 : denFn prog f89 [] = a89 := by kernel_rfl
def a90 : List AV → AC := fun v0 => .op (.box (nth v0 0)) fun v1 => zr [(.fn (.func 134) [] [v1])]
theorem e90 : denFn prog f90 [] = a90 := by kernel_rfl
def a91x0 (b0 bc : AV) : AC := zs b0 bc fun bd => zm []
def a91x1 (b0 b5 b6 b8 : AV) : AC := .call b6 [b8] fun b9 => .chk (.load 1 false b0) b5 (zc 139 [b9] fun ba => .chk (.load 1 false b0) b5 (.op (.bslice 1 1 [(I 0)] [(0, 1, ba)]) fun bb => .op (.append 1 8 b5 bb) fun bc => (a91x0 b0 bc)))
def a91x2 (v1 v8 b0 : AV) (b4 : List AV) : AC := zl b0 fun b5 => zl v8 fun b6 => .op (.load 4 true v1) fun b7 => zc 138 [b7, (nth b4 1)] fun b8 => .chk (.load 1 false b0) b5 (.chk (.load 1 false v8) b6 (a91x1 b0 b5 b6 b8))
def a91x3 (v1 v8 b0 b3 : AV) : AC := .rng 1 b3 (fun b4 => .start (nth b4 0) (.bind (a91x2 v1 v8 b0 b4) (some 1) (fun b5 => zm []) (fun b5 => []))) (zm []) []
def a91x4 (b0 : AV) : AC := zl b0 fun b5 => zr [b5]
def a91x5 (v1 v8 b0 : AV) : AC := .op (.load 4 true v1) fun b1 => zl v8 fun b2 => zc 137 [b1, b2] fun b3 => .bind (a91x3 v1 v8 b0 b3) (some 0) (fun b4 => (a91x4 b0)) (fun b4 => [Ns])
def a91x6 (v0 : List AV) (v1 : AV) : AC := zc 54 [(nth v0 1)] fun v5 => .op (.alloc [Ns]) fun v6 => zs v6 v5 fun v7 => .op (.alloc [Nf]) fun v8 => .op (.store 1 v8 (.fn (.func 136) [] [v6])) fun v9 => .op (.alloc [Ns]) fun b0 => (a91x5 v1 v8 b0)
def a91 : List AV → AC := fun v0 => .op (.box (nth v0 0)) fun v1 => .op (.load 4 true v1) fun v2 => zc 135 [v2] fun v3 => .op (.un .not v3) fun v4 => .ite v4 (zr [Ns]) (a91x6 v0 v1)
theorem e91 : denFn prog f91 [4] = a91 := by kernel_rfl
def a92x0 (v0 : List AV) (bh : AV) : AC := zl bh fun bi => zb .add bi (I 1) fun bj => zn (nth v0 0) fun bk => zf 36 bk fun bl => zs bl bj fun bm => zr []
def a92x1 (v0 : List AV) (b7 ba bb : AV) : AC := zb .add (I 10) bb fun bc => .op (.build [(I 0), (I 0), (I 0), (U 0)] [(0, 1, bc), (1, 1, (nth v0 3)), (2, 1, (nth v0 4))]) fun bd => .op (.build [(I 0), (B false), (I 0), (I 0), (I 0), (U 0), (I 0), (I 0), (U 0)] [(0, 1, ba), (2, 4, bd)]) fun be => .call b7 [be] fun bf => zn (nth v0 0) fun bg => zf 36 bg fun bh => (a92x0 v0 bh)
def a92x2 (v0 : List AV) (b6 b7 : AV) : AC := zn (nth v0 0) fun b8 => zf 36 b8 fun b9 => zl b9 fun ba => zc 141 [(nth v0 2)] fun bb => .chk (.load 1 false b6) b7 (.chk (.load 1 false b9) ba (a92x1 v0 b7 ba bb))
def a92x3 (v0 : List AV) (b1 b2 : AV) : AC := zc 141 [(nth v0 2)] fun b3 => .chk (.load 1 false b1) b2 (zc 140 [b2, (nth v0 1), b3] fun b4 => zn (nth v0 0) fun b5 => zf 37 b5 fun b6 => zl b6 fun b7 => (a92x2 v0 b6 b7))
def a92x4 (v0 : List AV) (v3 v6 : AV) : AC := .op (.build [Np, (I 0)] [(0, 1, (nth v0 2)), (1, 1, v6)]) fun v7 => .op (.box v7) fun v8 => .op (.mapset 3 v3 (nth v0 1) v8) fun v9 => zn (nth v0 0) fun b0 => zf 31 b0 fun b1 => zl b1 fun b2 => (a92x3 v0 b1 b2)
def a92 : List AV → AC := fun v0 => zn (nth v0 0) fun v1 => zf 33 v1 fun v2 => zl v2 fun v3 => zn (nth v0 0) fun v4 => zf 36 v4 fun v5 => zl v5 fun v6 => (a92x4 v0 v3 v6)
theorem e92 : denFn prog f92 [] = a92 := by kernel_rfl
def a93x0 (v0 : List AV) (v1 b6 : AV) : AC := zf 28 v1 fun bb => zl bb fun bc => .op (.saddr 4 bc (nth v0 1)) fun bd => .op (.load 4 true bd) fun be => zc 144 [b6, be, (nth v0 1), (nth v0 2)] fun bf => zc 143 [b6, bf] fun bg => zm []
def a93x1 (v0 : List AV) (v1 b6 b8 : AV) : AC := zl b8 fun b9 => zb .eql b9 (I 0) fun ba => .bind (.ite ba (a93x0 v0 v1 b6) (zm [])) none (fun bb => zr [b6]) (fun bb => [Np])
def a93x2 (v0 : List AV) (v1 v2 b2 : AV) : AC := zu b2 (.mv (nth v0 2)) fun b3 => zu b2 (.bin .gtr b3 (I 1099511627776)) fun b4 => zi b2 (B true) b4 fun b5 => zc 142 [v2, (I 1), (I 0), b5] fun b6 => zn b6 fun b7 => zf 38 b7 fun b8 => (a93x1 v0 v1 b6 b8)
def a93x3 (v0 : List AV) (v1 v2 v3 v4 v6 : AV) : AC := zu v3 (.len false v6) fun v7 => zu v3 (.bin .geq v4 v7) fun v8 => zi v3 (B true) v8 fun v9 => zu v9 (.mv (nth v0 2)) fun b0 => zu v9 (.bin .lss b0 (I 0)) fun b1 => zi v9 (B true) b1 fun b2 => (a93x2 v0 v1 v2 b2)
def a93 : List AV → AC := fun v0 => .op (.box (nth v0 0)) fun v1 => .op (.load 29 true v1) fun v2 => zb .lss (nth v0 1) (I 0) fun v3 => zu v3 (.mv (nth v0 1)) fun v4 => zu v3 (.faddr 28 v1) fun v5 => zu v3 (.load 1 false v5) fun v6 => (a93x3 v0 v1 v2 v3 v4 v6)
theorem e93 : denFn prog f93 [] = a93 := by kernel_rfl
def a94x0 (v0 : List AV) (v3 : AV) : AC := zc 146 [v3, (nth v0 2)] fun v8 => zc 143 [v3, v8] fun v9 => zm []
def a94x1 (v0 : List AV) (v3 v6 : AV) : AC := zb .eql v6 (I 0) fun v7 => .bind (.ite v7 (a94x0 v0 v3) (zm [])) none (fun v8 => zr [v3]) (fun v8 => [Np])
def a94 : List AV → AC := fun v0 => .op (.box (nth v0 0)) fun v1 => .op (.load 29 true v1) fun v2 => zc 145 [v2, (I 2), (nth v0 1), (nth v0 2)] fun v3 => zn v3 fun v4 => zf 38 v4 fun v5 => zl v5 fun v6 => (a94x1 v0 v3 v6)
theorem e94 : denFn prog f94 [] = a94 := by kernel_rfl
def a95x0 (v3 v6 : AV) : AC := zf 2 v6 fun v7 => zl v7 fun v8 => zc 147 [v3, v8] fun v9 => zr [v9]
def a95 : List AV → AC := fun v0 => zn (nth v0 0) fun v1 => zf 30 v1 fun v2 => zl v2 fun v3 => zn (nth v0 0) fun v4 => zf 0 v4 fun v5 => zf 0 v5 fun v6 => (a95x0 v3 v6)
theorem e95 : denFn prog f95 [] = a95 := by kernel_rfl
def a96x0 (v3 : AV) : AC := zc 148 [v3] fun v8 => zc 143 [v3, v8] fun v9 => zm []
def a96x1 (v3 v6 : AV) : AC := zb .eql v6 (I 0) fun v7 => .bind (.ite v7 (a96x0 v3) (zm [])) none (fun v8 => zr [v3]) (fun v8 => [Np])
def a96 : List AV → AC := fun v0 => .op (.box (nth v0 0)) fun v1 => .op (.load 29 true v1) fun v2 => zc 145 [v2, (I 3), (nth v0 1), (I 1)] fun v3 => zn v3 fun v4 => zf 38 v4 fun v5 => zl v5 fun v6 => (a96x1 v3 v6)
theorem e96 : denFn prog f96 [] = a96 := by kernel_rfl
def a97x0 (v0 : List AV) (v3 : AV) : AC := zc 149 [v3, (nth v0 2)] fun v8 => zc 143 [v3, v8] fun v9 => zm []
def a97x1 (v0 : List AV) (v3 v6 : AV) : AC := zb .eql v6 (I 0) fun v7 => .bind (.ite v7 (a97x0 v0 v3) (zm [])) none (fun v8 => zr [v3]) (fun v8 => [Np])
def a97 : List AV → AC := fun v0 => .op (.box (nth v0 0)) fun v1 => .op (.load 29 true v1) fun v2 => zc 145 [v2, (I 4), (nth v0 1), (nth v0 2)] fun v3 => zn v3 fun v4 => zf 38 v4 fun v5 => zl v5 fun v6 => (a97x1 v0 v3 v6)
theorem e97 : denFn prog f97 [] = a97 := by kernel_rfl
def a99x0 (v0 : List AV) (bj bw : AV) : AC := .call bj [bw] fun bx => zn (nth v0 0) fun bz => zf 33 bz fun c0 => zl c0 fun c1 => .op (.mapdel 3 c1 (nth v0 1)) fun c2 => zr [(B true)]
def a99x1 (v0 : List AV) (bi bj bl bm bq br bs bt bu : AV) : AC := .chk (.load 1 false bi) bj (.chk (.load 1 false bl) bm (.chk (.load 1 false bq) br (.chk (.load 1 false bs) bt (.op (.build [(I 0), (I 0), (U 0)] [(0, 1, bu), (1, 1, br), (2, 1, bt)]) fun bv => .op (.build [(I 0), (B false), (I 0), (I 0), (I 0), (U 0), (I 0), (I 0), (U 0)] [(0, 1, bm), (1, 1, (B true)), (6, 3, bv)]) fun bw => (a99x0 v0 bj bw)))))
def a99x2 (v0 : List AV) (bf bi bj bl bm bo : AV) : AC := zl bo fun bp => zf 0 bf fun bq => zl bq fun br => zf 1 bf fun bs => zl bs fun bt => zc 100 [bp] fun bu => (a99x1 v0 bi bj bl bm bq br bs bt bu)
def a99x3 (v0 : List AV) (v4 bf bi : AV) : AC := zl bi fun bj => zn v4 fun bk => zf 1 bk fun bl => zl bl fun bm => zn v4 fun bn => zf 0 bn fun bo => (a99x2 v0 bf bi bj bl bm bo)
def a99x4 (v0 : List AV) (v4 bc : AV) : AC := zl bc fun bd => zc 101 [bd] fun be => .op (.alloc [(I 0), (U 0)]) fun bf => .op (.store 2 bf be) fun bg => zn (nth v0 0) fun bh => zf 37 bh fun bi => (a99x3 v0 v4 bf bi)
def a99x5 (v0 : List AV) (v4 : AV) : AC := zn (nth v0 0) fun b7 => zf 31 b7 fun b8 => zl b8 fun b9 => zc 153 [b9, (nth v0 1)] fun ba => zn v4 fun bb => zf 0 bb fun bc => (a99x4 v0 v4 bc)
def a99x6 (v0 : List AV) (v4 b1 b2 : AV) : AC := zf 31 b2 fun b3 => zl b3 fun b4 => zc 152 [b4, (nth v0 1)] fun b5 => .op (.un .not b1) fun b6 => .ite b6 (zr [(B false)]) (a99x5 v0 v4)
def a99x7 (v0 : List AV) (v4 v6 : AV) : AC := zl v6 fun v7 => zn (nth v0 0) fun v8 => zf 29 v8 fun v9 => zl v9 fun b0 => zc 151 [v7, b0] fun b1 => zn (nth v0 0) fun b2 => (a99x6 v0 v4 b1 b2)
def a99 : List AV → AC := fun v0 => zn (nth v0 0) fun v1 => zf 33 v1 fun v2 => zl v2 fun v3 => .op (.lookup 3 false Np v3 (nth v0 1)) fun v4 => zn v4 fun v5 => zf 0 v5 fun v6 => (a99x7 v0 v4 v6)
theorem e99 : denFn prog f99 [4] = a99 := by kernel_rfl
def a100x0 (v0 : List AV) : AC := zc 154 [(nth v0 0)] fun v8 => .op (.un .not v8) fun v9 => .ite v9 (zr [(I 14)]) (zm [(I 0)])
def a100x1 (v0 : List AV) (v1 v3 : AV) : AC := zu v1 (.faddr 29 v3) fun v4 => zu v1 (.load 1 false v4) fun v5 => zu v1 (.bin .eql v5 (I 0)) fun v6 => zi v1 (B true) v6 fun v7 => .ite v7 (zr [(I 1)]) (a100x0 v0)
def a100 : List AV → AC := fun v0 => .bind (.op (.eq 204 false (nth v0 0) Np) fun v1 => zu v1 (.mv (nth v0 0)) fun v2 => zu v1 (.nilchk v2) fun v3 => (a100x1 v0 v1 v3)) (some 0) (fun v1 => zn (nth v0 0) fun v2 => zf 38 v2 fun v3 => zl v3 fun v4 => zr [v4]) (fun v1 => [(nth v1 0)])
theorem e100 : denFn prog f100 [2] = a100 := by kernel_rfl
def a101x0 (v1 : AV) : AC := .op (.build [(I 0), (U 0)] []) fun v9 => .op (.store 2 v1 v9) fun b0 => zr [v1]
def a101x1 (v1 b1 b4 : AV) : AC := .op (.build [(I 0), (U 0)] [(0, 1, b1), (1, 1, b4)]) fun b5 => .op (.store 2 v1 b5) fun b6 => zr [v1]
def a101x2 (v0 : List AV) (v1 : AV) : AC := zn (nth v0 0) fun v9 => zf 33 v9 fun b0 => zl b0 fun b1 => zn (nth v0 0) fun b2 => zf 34 b2 fun b3 => zl b3 fun b4 => (a101x1 v1 b1 b4)
def a101x3 (v0 : List AV) (v1 v3 : AV) : AC := zu v3 (.mv (nth v0 0)) fun v4 => zu v3 (.nilchk v4) fun v5 => zu v3 (.faddr 36 v5) fun v6 => zu v3 (.load 1 false v6) fun v7 => zi v3 (B true) v7 fun v8 => .ite v8 (a101x0 v1) (a101x2 v0 v1)
def a101 : List AV → AC := fun v0 => .fin (.op (.alloc [(I 0), (U 0)]) fun v1 => zc 100 [(nth v0 0)] fun v2 => zb .neq v2 (I 0) fun v3 => (a101x3 v0 v1 v3)) fun v1 => .op (.load 2 true (nth v1 0)) fun v2 => zr [v2]
theorem e101 : denFn prog f101 [] = a101 := by kernel_rfl
def a102x0 (v8 b2 : AV) : AC := .op (.load 1 false v8) fun b4 => .op (.load 2 true b2) fun b5 => .call (.fn (.func 156) [] []) [b4, b5] fun b6 => .ret .normal []
def a102x1 (v8 : AV) (b1 : List AV) : AC := .op (.alloc [(I 0), (I 0)]) fun b2 => .op (.store 2 b2 (nth b1 1)) fun b3 => .start (nth b1 0) (.bind (a102x0 v8 b2) (some 1) (fun b4 => .ret .normal []) (fun b4 => []))
def a102x2 (v8 b0 : AV) : AC := .bind (.rng 1 b0 (fun b1 => (a102x1 v8 b1)) (.ret .normal []) []) (some 0) (fun b1 => .op (.load 1 false v8) fun b2 => .ret .ret [b2]) (fun b1 => [Np])
def a102x3 (v0 : List AV) (v4 : AV) : AC := .call (.fn (.func 74) [] []) [v4] fun v5 => .op (.extract 0 v5) fun v6 => .op (.extract 1 v5) fun v7 => .op (.alloc [Np]) fun v8 => .op (.store 1 v8 v6) fun v9 => .call (.fn (.func 155) [] []) [(nth v0 0)] fun b0 => (a102x2 v8 b0)
def a102 : List AV → AC := fun v0 => .call (.fn (.func 77) [] []) [(nth v0 0)] fun v1 => .ite v1 (.op (.build [(I 0), (B false), Ns, Ns, Ns, Ns, Ns, Ns, Ns, Ns, Ns, Ns, Ns, Ns, Ns, Ns, Ns, Ns, Ns, Ns, Ns, Ns, Ns, Ns, Ns, Ns, Ns, Ns, Ns, Ns, Ns, Ns, Ns, Ns, Ns, Ns, Ns, Ns, Ns, Ns, Ns, Ns, Ns, Ns, Ns, Ns, Ns, Ns, Ns, Ns, Ns, Ns, Ns, Ns, Ns, Ns, Ns, Ns, Ns, Ns, Ns, Ns, Ns, Ns, Ns, Ns, Ns, Ns, Ns, Ns, Ns, Ns, Ns, Ns, Ns, Ns, Ns, Ns, Ns, Ns, Ns, Ns, Ns, Ns, Ns, Ns, Ns, Ns, Ns, Ns, Ns, Ns, Ns, Ns, Ns, Ns, Ns, Ns, Ns, Ns, Ns, Ns, Ns, Ns, Ns, Ns, Ns, Ns, Ns, Ns, Ns, Ns, Ns, Ns, Ns, Ns, Ns, Ns, Ns, Ns, Ns, Ns, Ns, Ns, Ns, Ns, Ns, Ns, Ns, Ns, Ns, Ns, Ns, Ns, Ns, Ns, Ns, Ns, Ns, Ns, Ns, Ns, Ns, Ns, Ns, Ns, Ns, Ns, Ns, Ns, Ns, Ns, Ns, Ns, Ns, Ns, Ns, Ns, Ns, Ns, Ns, Ns, Ns, Ns, Ns, Ns, Ns, Ns, Ns, Ns, Ns, Ns, Ns, Ns, Ns, Ns, Ns, Ns, Nm] []) fun v2 => .op (.box v2) fun v3 => .ret .ret [v3]) (.op (.nilchk (nth v0 0)) fun v2 => .op (.faddr 0 v2) fun v3 => .op (.load 1 false v3) fun v4 => (a102x3 v0 v4))
theorem e102 : denFn prog f102 [2] = a102 := by kernel_rfl
def a103x0 (v2 v3 v9 : AV) : AC := .op (.store 1 v3 v9) fun b2 => .ret .ret [v2, v3]
def a103x1 (b3 b8 bw : AV) : AC := .op (.load 1 false b3) fun bz => .op (.faddr 0 b8) fun c0 => .op (.load 1 false c0) fun c1 => .op (.build [(I 0), (I 0)] [(0, 1, c1), (1, 1, bw)]) fun c2 => .call (.fn (.func 156) [] []) [bz, c2] fun c3 => .ret .normal []
def a103x2 (b3 b8 bv bw : AV) : AC := .op (.extract 1 bv) fun bx => .bind (.ite bx (a103x1 b3 b8 bw) (.ret .normal [])) none (fun bz => .ret .normal []) (fun bz => [])
def a103x3 (b3 b8 bq : AV) : AC := .op (.load 4 true bq) fun br => .op (.faddr 1 b8) fun bs => .op (.load 1 false bs) fun bt => .op (.bin .add bt (I 1)) fun bu => .call (.fn (.func 45) [] []) [br, bu] fun bv => .op (.extract 0 bv) fun bw => (a103x2 b3 b8 bv bw)
def a103x4 (v1 b3 b8 bm : AV) : AC := .ite bm (.ret (.exit 1) []) (.op (.load 1 false v1) fun bn => .op (.faddr 0 b8) fun bo => .op (.load 1 false bo) fun bp => .op (.saddr 4 bn bp) fun bq => (a103x3 b3 b8 bq))
def a103x5 (v1 b1 b3 b8 bg : AV) : AC := .op (.store 1 b1 bg) fun bh => .op (.faddr 0 b8) fun bi => .op (.load 1 false bi) fun bj => .op (.load 1 false v1) fun bk => .op (.len false bk) fun bl => .op (.bin .geq bj bl) fun bm => (a103x4 v1 b3 b8 bm)
def a103x6 (v1 v2 v3 b1 b3 b8 bc : AV) : AC := .ite bc (.op (.store 1 v2 Ns) fun bd => .op (.store 1 v3 (I 4)) fun be => .ret .ret []) (.op (.load 1 false b1) fun bd => .op (.load 2 true b8) fun be => .op (.bslice 2 1 [(I 0), (I 0)] [(0, 2, be)]) fun bf => .op (.append 2 16 bd bf) fun bg => (a103x5 v1 b1 b3 b8 bg))
def a103x7 (v1 v2 v3 b1 b3 b8 : AV) : AC := .bind (.op (.load 1 false b1) fun ba => .op (.len false ba) fun bb => .op (.bin .eql bb (I 4096)) fun bc => (a103x6 v1 v2 v3 b1 b3 b8 bc)) (some 1) (fun ba => .ret .normal []) (fun ba => [])
def a103x8 (v1 v2 v3 b1 b3 b6 : AV) : AC := .rng 1 b6 (fun b7 => .op (.alloc [(I 0), (I 0)]) fun b8 => .op (.store 2 b8 (nth b7 1)) fun b9 => .start (nth b7 0) (a103x7 v1 v2 v3 b1 b3 b8)) (.ret .normal []) []
def a103x9 (v2 v3 b1 bc bd : AV) : AC := .op (.store 179 bd bc) fun be => .op (.load 1 false b1) fun bf => .op (.store 1 v2 bf) fun bg => .op (.store 1 v3 (I 0)) fun bh => .ret .ret [v2, v3]
def a103x10 (v0 : List AV) (v2 v3 b1 b3 : AV) : AC := .op (.load 1 false b3) fun b8 => .call (.fn (.func 160) [] []) [b8, (nth v0 2)] fun b9 => .op (.load 1 false b3) fun ba => .op (.nilchk ba) fun bb => .op (.load 179 true bb) fun bc => .op (.nilchk (nth v0 0)) fun bd => (a103x9 v2 v3 b1 bc bd)
def a103x11 (v0 : List AV) (v1 v2 v3 b1 : AV) : AC := .call (.fn (.func 102) [] []) [(nth v0 0)] fun b2 => .op (.alloc [Np]) fun b3 => .op (.store 1 b3 b2) fun b4 => .op (.load 1 false b3) fun b5 => .call (.fn (.func 159) [] []) [b5, (nth v0 2)] fun b6 => .bind (a103x8 v1 v2 v3 b1 b3 b6) (some 0) (fun b7 => (a103x10 v0 v2 v3 b1 b3)) (fun b7 => [v2, v3])
def a103x12 (v0 : List AV) (v1 v2 v3 v6 v7 : AV) : AC := .op (.bslice 1 2 [(I 0)] [(0, 1, v6), (1, 1, v7)]) fun v8 => .call (.fn (.func 157) [] []) [v8] fun v9 => .op (.bin .neq v9 (I 0)) fun b0 => .ite b0 (.op (.store 1 v2 Ns) fun b1 => (a103x0 v2 v3 v9)) (.op (.alloc [Ns]) fun b1 => (a103x11 v0 v1 v2 v3 b1))
def a103x13 (v0 : List AV) (v1 v2 v3 : AV) : AC := .call (.fn (.func 77) [] []) [(nth v0 0)] fun v4 => .ite v4 (.op (.store 1 v2 Ns) fun v5 => .op (.store 1 v3 (I 1)) fun v6 => .ret .ret [v2, v3]) (.op (.load 1 false v1) fun v5 => .call (.fn (.func 42) [] []) [v5] fun v6 => .call (.fn (.func 158) [] []) [(nth v0 0), (nth v0 2)] fun v7 => (a103x12 v0 v1 v2 v3 v6 v7))
def a103 : List AV → AC := fun v0 => .fin (.op (.box (nth v0 1)) fun v1 => .op (.alloc [Ns]) fun v2 => .op (.alloc [(I 0)]) fun v3 => (a103x13 v0 v1 v2 v3)) fun v1 => .op (.load 1 false (nth v1 0)) fun v2 => .op (.load 1 false (nth v1 1)) fun v3 => .ret .ret [v2, v3]
theorem e103 : denFn prog f103 [] = a103 := by kernel_rfl
def a104x0 (v0 : List AV) (b9 : AV) : AC := .ite b9 (zn (nth v0 2) fun ba => zf 2 ba fun bb => zs bb (I 12) fun bc => zm []) (zm [])
def a104x1 (v4 : AV) : AC := zn v4 fun bb => zf 0 bb fun bc => zl bc fun bd => zc 100 [bd] fun be => zr [(B true), be]
def a104x2 (v0 : List AV) (v4 : AV) (v5 : List AV) : AC := zn v4 fun b5 => zf 0 b5 fun b6 => zl b6 fun b7 => zc 100 [b7] fun b8 => zb .eql b8 (I 12) fun b9 => .bind (a104x0 v0 b9) none (fun ba => (a104x1 v4)) (fun ba => [(nth v5 1), (nth v5 2)])
def a104x3 (v0 : List AV) (v4 : AV) (v5 : List AV) (v9 : AV) : AC := zb .add v9 (I 1) fun b0 => zn (nth v0 2) fun b1 => zf 0 b1 fun b2 => zs b2 b0 fun b3 => zc 99 [(nth v0 0), (nth v0 1)] fun b4 => .ite b4 (a104x2 v0 v4 v5) (zm [(nth v5 1), (nth v5 2)])
def a104x4 (v0 : List AV) (v4 : AV) (v5 : List AV) : AC := .bind (zn (nth v0 2) fun v7 => zf 0 v7 fun v8 => zl v8 fun v9 => (a104x3 v0 v4 v5 v9)) (some 1) (fun v7 => zb .add (nth v5 0) (I 1) fun v8 => zm [v8, (nth v7 0), (nth v7 1)]) (fun v7 => [(nth v5 0), (nth v7 0), (nth v7 1)])
def a104x5 (v0 : List AV) (v4 : AV) : AC := .loop [(I 0), (B false), (I 0)] (fun v5 => zb .lss (nth v5 0) (I 100000) fun v6 => .ite v6 (a104x4 v0 v4 v5) (.ret (.exit 0) [(nth v5 0), (nth v5 1), (nth v5 2)])) (fun v5 => [(nth v5 0), (nth v5 1), (nth v5 2)])
def a104 : List AV → AC := fun v0 => zn (nth v0 0) fun v1 => zf 33 v1 fun v2 => zl v2 fun v3 => .op (.lookup 3 false Np v3 (nth v0 1)) fun v4 => .bind (a104x5 v0 v4) (some 0) (fun v5 => zr [(I 14), (B false)]) (fun v5 => [(nth v5 2), (nth v5 1)])
theorem e104 : denFn prog f104 [6, 7, 15] = a104 := by kernel_rfl
def a105x0 (b3 b6 : AV) : AC := zb .add b3 b6 fun b7 => zb .add b7 (I 4) fun b8 => zr [b8]
def a105x1 (v1 v8 b0 : AV) : AC := zf 2 b0 fun b1 => zl b1 fun b2 => zb .mul v8 b2 fun b3 => zf 20 v1 fun b4 => zf 2 b4 fun b5 => zl b5 fun b6 => (a105x0 b3 b6)
def a105x2 (v1 : AV) : AC := zf 23 v1 fun v5 => zf 2 v5 fun v6 => zl v6 fun v7 => zb .mul (I 2) v7 fun v8 => zf 15 v1 fun v9 => zf 2 v9 fun b0 => (a105x1 v1 v8 b0)
def a105 : List AV → AC := fun v0 => .op (.box (nth v0 0)) fun v1 => .op (.load 29 true v1) fun v2 => zc 53 [v2] fun v3 => .op (.un .not v3) fun v4 => .ite v4 (zr [(I 0)]) (a105x2 v1)
theorem e105 : denFn prog f105 [2] = a105 := by kernel_rfl
def a106 : List AV → AC := fun v0 => .op (.eq 25 false (nth v0 0) Ns) fun v1 => .ite v1 (zr [Ns]) (.op (.bslice 4 0 [(I 0), (I 0), (I 0), (U 0)] []) fun v2 => .op (.append 4 32 v2 (nth v0 0)) fun v3 => zr [v3])
theorem e106 : denFn prog f106 [2] = a106 := by kernel_rfl
def a107 : List AV → AC := fun v0 => .op (.len false (nth v0 0)) fun v1 => zc 161 [(nth v0 0), v1, (nth v0 1)] fun v2 => zr []
theorem e107 : denFn prog f107 [] = a107 := by kernel_rfl
def a108x0 (v4 : List AV) (v7 b3 b4 : AV) : AC := zu b3 (.load 1 false b4) fun b5 => zu b3 (.faddr 3 v7) fun b6 => zu b3 (.load 1 false b6) fun b7 => zu b3 (.bin .gtr b5 b7) fun b8 => zi b3 (B true) b8 fun b9 => .ite b9 (zr [(I 3)]) (zm [(nth v4 1)])
def a108x1 (v4 : List AV) (v7 : AV) : AC := zf 1 v7 fun v9 => zl v9 fun b0 => zf 2 v7 fun b1 => zl b1 fun b2 => zb .lss b0 b2 fun b3 => zu b3 (.faddr 1 v7) fun b4 => (a108x0 v4 v7 b3 b4)
def a108x2 (v3 : AV) (v4 : List AV) : AC := .bind (.op (.aidx 6 4 true v3 (nth v4 0)) fun v6 => .op (.alloc [(.sc (.string ⟨#[]⟩)), (I 0), (I 0), (I 0)]) fun v7 => .op (.store 4 v7 v6) fun v8 => (a108x1 v4 v7)) (some 1) (fun v6 => zb .add (nth v4 0) (I 1) fun v7 => zm [v7, (nth v6 0)]) (fun v6 => [(nth v4 0), (nth v6 0)])
def a108x3 (v3 : AV) : AC := .loop [(I 0), (I 0)] (fun v4 => zb .lss (nth v4 0) (I 6) fun v5 => .ite v5 (a108x2 v3 v4) (.ret (.exit 0) [(nth v4 0), (nth v4 1)])) (fun v4 => [(nth v4 0), (nth v4 1)])
def a108x4 (v1 : AV) : AC := zf 6 v1 fun v9 => zl v9 fun b0 => .op (.len false b0) fun b1 => zb .eql b1 (I 0) fun b2 => .ite b2 (zr [(I 2)]) (zr [(I 0)])
def a108x5 (v1 : AV) : AC := zf 6 v1 fun v5 => zl v5 fun v6 => zc 42 [v6] fun v7 => zb .neq v7 (I 0) fun v8 => .ite v8 (zr [v7]) (a108x4 v1)
def a108 : List AV → AC := fun v0 => .op (.box (nth v0 0)) fun v1 => .op (.load 7 true v1) fun v2 => zc 162 [v2] fun v3 => .bind (a108x3 v3) (some 0) (fun v4 => (a108x5 v1)) (fun v4 => [(nth v4 1)])
theorem e108 : denFn prog f108 [2, 8] = a108 := by kernel_rfl
def a109 : List AV → AC := fun v0 => zl (nth v0 1) fun v1 => zb .add v1 (nth v0 0) fun v2 => zs (nth v0 1) v2 fun v3 => zl (nth v0 1) fun v4 => zb .sub v4 (nth v0 0) fun v5 => zr [v5]
theorem e109 : denFn prog f109 [] = a109 := by kernel_rfl
def a110 : List AV → AC := fun v0 => .op (.eq 42 false (nth v0 0) Ns) fun v1 => .ite v1 (zr [Ns]) (.op (.bslice 1 0 [(I 0)] []) fun v2 => .op (.append 1 8 v2 (nth v0 0)) fun v3 => zr [v3])
theorem e110 : denFn prog f110 [2] = a110 := by kernel_rfl
def a111x0 (v0 : List AV) (b4 : AV) : AC := zc 116 [(nth v0 1), b4, (U 0)] fun b5 => zm []
def a111x1 (v0 : List AV) (v1 : AV) (b0 : List AV) : AC := .bind (zf 1 v1 fun b2 => zl b2 fun b3 => zb .add b3 (nth b0 0) fun b4 => (a111x0 v0 b4)) (some 1) (fun b2 => zb .add (nth b0 0) (I 1) fun b3 => zm [b3]) (fun b2 => [(nth b0 0)])
def a111x2 (v0 : List AV) (v1 v9 : AV) : AC := .loop [(I 0)] (fun b0 => zb .lss (nth b0 0) v9 fun b1 => .ite b1 (a111x1 v0 v1 b0) (.ret (.exit 0) [(nth b0 0)])) (fun b0 => [(nth b0 0)])
def a111x3 (v0 : List AV) (v1 : AV) : AC := zf 3 v1 fun v5 => .op (.load 10 true v5) fun v6 => zc 163 [v6, (nth v0 1)] fun v7 => zf 2 v1 fun v8 => zl v8 fun v9 => .bind (a111x2 v0 v1 v9) (some 0) (fun b0 => zr []) (fun b0 => [])
def a111 : List AV → AC := fun v0 => .op (.box (nth v0 0)) fun v1 => .op (.load 13 true v1) fun v2 => zc 122 [v2] fun v3 => .op (.un .not v3) fun v4 => .ite v4 (zr []) (a111x3 v0 v1)
theorem e111 : denFn prog f111 [14] = a111 := by kernel_rfl
def a112x0 (v2 : AV) (v8 : List AV) : AC := .start (nth v8 0) (.bind (zl v2 fun v9 => zc 116 [v9, (nth v8 1), (U 0)] fun b0 => zm []) (some 1) (fun v9 => zm []) (fun v9 => []))
def a112x1 (v1 v2 : AV) : AC := .op (.load 2 true v1) fun v6 => zc 165 [v6] fun v7 => .bind (.rng 1 v7 (fun v8 => (a112x0 v2 v8)) (zm []) []) (some 0) (fun v8 => zr []) (fun v8 => [])
def a112 : List AV → AC := fun v0 => .op (.box (nth v0 0)) fun v1 => .op (.box (nth v0 1)) fun v2 => .op (.load 2 true v1) fun v3 => zc 164 [v3] fun v4 => .op (.un .not v4) fun v5 => .ite v5 (zr []) (a112x1 v1 v2)
theorem e112 : denFn prog f112 [] = a112 := by kernel_rfl
def a113x0 (v0 : List AV) (v1 : AV) (b1 : List AV) (b5 b7 : AV) : AC := zc 116 [(nth v0 1), b5, b7] fun b8 => zf 1 v1 fun b9 => zl b9 fun ba => zb .add ba (nth b1 0) fun bb => zc 116 [(nth v0 1), bb, (U 0)] fun bc => zm []
def a113x1 (v0 : List AV) (v1 : AV) (b1 : List AV) : AC := zf 0 v1 fun b3 => zl b3 fun b4 => zb .add b4 (nth b1 0) fun b5 => .op (.build [(I 0), (I 0), (I 0)] [(0, 1, (I 1)), (2, 1, (I 1))]) fun b6 => zc 167 [b6] fun b7 => .chk (.load 1 false b3) b4 (a113x0 v0 v1 b1 b5 b7)
def a113x2 (b1 : List AV) : AC := zb .add (nth b1 0) (I 1) fun b4 => zm [b4]
def a113x3 (v0 : List AV) (v1 b0 : AV) (b1 : List AV) : AC := zb .lss (nth b1 0) b0 fun b2 => .ite b2 (.bind (a113x1 v0 v1 b1) (some 1) (fun b3 => (a113x2 b1)) (fun b3 => [(nth b1 0)])) (.ret (.exit 0) [(nth b1 0)])
def a113x4 (v0 : List AV) (v1 b0 : AV) : AC := .bind (.loop [(I 0)] (fun b1 => (a113x3 v0 v1 b0 b1)) (fun b1 => [(nth b1 0)])) (some 0) (fun b1 => zr []) (fun b1 => [])
def a113x5 (v0 : List AV) (v1 : AV) : AC := zf 2 v1 fun v5 => .op (.load 3 true v5) fun v6 => zc 166 [v6, (nth v0 1)] fun v7 => zf 2 v1 fun v8 => zf 2 v8 fun v9 => zl v9 fun b0 => (a113x4 v0 v1 b0)
def a113 : List AV → AC := fun v0 => .op (.box (nth v0 0)) fun v1 => .op (.load 5 true v1) fun v2 => zc 84 [v2] fun v3 => .op (.un .not v3) fun v4 => .ite v4 (zr []) (a113x5 v0 v1)
theorem e113 : denFn prog f113 [15] = a113 := by kernel_rfl
def a114x0 (v2 v9 : AV) : AC := .op (.load 4 true v9) fun b1 => zl v2 fun b2 => zc 168 [b1, b2] fun b3 => zm []
def a114x1 (v2 : AV) (v8 : List AV) : AC := .op (.alloc [(I 0), (I 0), (I 0), (I 0)]) fun v9 => .op (.store 4 v9 (nth v8 2)) fun b0 => .start (nth v8 0) (.bind (a114x0 v2 v9) (some 1) (fun b1 => zm []) (fun b1 => []))
def a114x2 (v1 v2 : AV) : AC := .op (.load 3 true v1) fun v6 => zc 90 [v6] fun v7 => .bind (.rng 2 v7 (fun v8 => (a114x1 v2 v8)) (zm []) []) (some 0) (fun v8 => zr []) (fun v8 => [])
def a114 : List AV → AC := fun v0 => .op (.box (nth v0 0)) fun v1 => .op (.box (nth v0 1)) fun v2 => .op (.load 3 true v1) fun v3 => zc 133 [v3] fun v4 => .op (.un .not v4) fun v5 => .ite v5 (zr []) (a114x2 v1 v2)
theorem e114 : denFn prog f114 [] = a114 := by kernel_rfl
def a115x0 (v0 v7 : List AV) (b4 : AV) : AC := zb .add b4 (nth v7 0) fun b5 => zc 116 [(nth v0 1), b5, (U 0)] fun b6 => zm []
def a115x1 (v0 : List AV) (v1 : AV) (v7 : List AV) : AC := zf 0 v1 fun v9 => zl v9 fun b0 => zb .add b0 (nth v7 0) fun b1 => zc 116 [(nth v0 1), b1, (U 18446744073709551615)] fun b2 => zf 1 v1 fun b3 => zl b3 fun b4 => (a115x0 v0 v7 b4)
def a115x2 (v7 : List AV) : AC := zb .add (nth v7 0) (I 1) fun b0 => zm [b0]
def a115x3 (v0 : List AV) (v1 v6 : AV) (v7 : List AV) : AC := zb .lss (nth v7 0) v6 fun v8 => .ite v8 (.bind (a115x1 v0 v1 v7) (some 1) (fun v9 => (a115x2 v7)) (fun v9 => [(nth v7 0)])) (.ret (.exit 0) [(nth v7 0)])
def a115x4 (v0 : List AV) (v1 : AV) : AC := zf 2 v1 fun v5 => zl v5 fun v6 => .bind (.loop [(I 0)] (fun v7 => (a115x3 v0 v1 v6 v7)) (fun v7 => [(nth v7 0)])) (some 0) (fun v7 => zr []) (fun v7 => [])
def a115 : List AV → AC := fun v0 => .op (.box (nth v0 0)) fun v1 => .op (.load 3 true v1) fun v2 => zc 132 [v2] fun v3 => .op (.un .not v3) fun v4 => .ite v4 (zr []) (a115x4 v0 v1)
theorem e115 : denFn prog f115 [10] = a115 := by kernel_rfl
def a116x0 (v0 : List AV) (v3 v6 : AV) : AC := .op (.load 3 true v3) fun v7 => zc 170 [(nth v0 0), (I 2), (nth v0 1), v6, (.fn (.func 171) [v7] [])] fun v8 => zr []
def a116 : List AV → AC := fun v0 => zc 169 [(nth v0 0), (nth v0 1)] fun v1 => .op (.build [Np, (U 0), (U 0)] [(0, 1, v1), (1, 1, (nth v0 2))]) fun v2 => .op (.alloc [Np, (U 0), (U 0)]) fun v3 => .op (.store 3 v3 v2) fun v4 => zf 0 v3 fun v5 => zl v5 fun v6 => (a116x0 v0 v3 v6)
theorem e116 : denFn prog f116 [] = a116 := by kernel_rfl
def a117 : List AV → AC := fun v0 => .op (.bin .geq (nth v0 0) (I 0)) fun v1 => .gop v1 true (.mv (nth v0 0)) fun v2 => .gop v1 true (.bin .leq v2 (I 1099511627776)) fun v3 => .op (.pick v1 v3 (B false)) fun v4 => .ret .ret [v4]
theorem e117 : denFn prog f117 [] = a117 := by kernel_rfl
def a118x0 (v0 : List AV) (b1 : AV) : AC := .op (.load 1 false b1) fun b2 => .op (.bin .lss (nth v0 2) b2) fun b3 => .ite b3 (.ret .ret [(I 13)]) (.ret .normal [(I 0)])
def a118x1 (v0 : List AV) (v5 v7 : AV) : AC := .gop v5 false (.un .not v7) fun v8 => .op (.pick v5 (B true) v8) fun v9 => .ite v9 (.ret .ret [(I 3)]) (.op (.nilchk (nth v0 0)) fun b0 => .op (.faddr 0 b0) fun b1 => (a118x0 v0 b1))
def a118x2 (v0 : List AV) : AC := .op (.bin .lss (nth v0 1) (I 0)) fun v2 => .gop v2 false (.mv (nth v0 1)) fun v3 => .gop v2 false (.bin .geq v3 (I 256)) fun v4 => .op (.pick v2 (B true) v4) fun v5 => .gop v5 false (.mv (nth v0 2)) fun v6 => .gcall v5 false (.fn (.func 117) [] []) [v6] fun v7 => (a118x1 v0 v5 v7)
def a118 : List AV → AC := fun v0 => .bind (.call (.fn (.func 77) [] []) [(nth v0 0)] fun v1 => .ite v1 (.ret .ret [(I 1)]) (a118x2 v0)) (some 0) (fun v1 => .call (.fn (.func 172) [] []) [(nth v0 0), (nth v0 1)] fun v2 => .op (.build [(I 0), (I 0)] [(0, 1, (nth v0 1)), (1, 1, (nth v0 2))]) fun v3 => .call (.fn (.func 156) [] []) [(nth v0 0), v3] fun v4 => .ret .ret [(I 0)]) (fun v1 => [(nth v1 0)])
theorem e118 : denFn prog f118 [6] = a118 := by kernel_rfl
def a119x0 (v4 v6 : AV) : AC := .op (.bin .quo v4 v6) fun v7 => .op (.bin .add v7 (I 1)) fun v8 => .ret .ret [v8]
def a119 : List AV → AC := fun v0 => .op (.box (nth v0 0)) fun v1 => .op (.faddr 0 v1) fun v2 => .op (.load 1 false v2) fun v3 => .op (.bin .sub (I 1099511627776) v3) fun v4 => .op (.faddr 1 v1) fun v5 => .op (.load 1 false v5) fun v6 => (a119x0 v4 v6)
theorem e119 : denFn prog f119 [] = a119 := by kernel_rfl
def a120x0 (v0 : List AV) (b1 : AV) : AC := .call (nth v0 0) [b1] fun b2 => .op (.un .not b2) fun b3 => .ite b3 (.ret .ret []) (.ret .normal [])
def a120x1 (v0 v2 : List AV) : AC := .op (.faddr 0 (nth v0 2)) fun v6 => .op (.load 1 false v6) fun v7 => .op (.faddr 1 (nth v0 2)) fun v8 => .op (.load 1 false v8) fun v9 => .op (.bin .mul (nth v2 0) v9) fun b0 => .op (.bin .add v7 b0) fun b1 => (a120x0 v0 b1)
def a120x2 (v2 : List AV) : AC := .op (.bin .add (nth v2 0) (I 1)) fun v7 => .ret .normal [v7]
def a120x3 (v0 v2 : List AV) : AC := .op (.load 2 true (nth v0 2)) fun v3 => .call (.fn (.func 119) [] []) [v3] fun v4 => .op (.bin .lss (nth v2 0) v4) fun v5 => .ite v5 (.bind (a120x1 v0 v2) (some 1) (fun v6 => (a120x2 v2)) (fun v6 => [(nth v2 0)])) (.ret (.exit 0) [(nth v2 0)])
def a120 : List AV → AC := fun v0 => .op (.load 1 false (nth v0 1)) fun v1 => .bind (.loop [v1] (fun v2 => (a120x3 v0 v2)) (fun v2 => [(nth v2 0)])) (some 0) (fun v2 => .ret .ret []) (fun v2 => [])
theorem e120 : denFn prog f120 [4] = a120 := by kernel_rfl
def a121x0 (b6 : AV) : AC := .ite b6 (zr []) (zm [])
def a121x1 (v0 v6 : List AV) (v9 b0 : AV) : AC := zt b0 (.mv (nth v0 0)) fun b1 => zt b0 (.mv (nth v6 0)) fun b2 => zt b0 (.mv v9) fun b3 => .gcall b0 true b1 [b2, b3] fun b4 => zt b0 (.un .not b4) fun b5 => zi b0 b5 (B false) fun b6 => (a121x0 b6)
def a121x2 (v0 : List AV) (v4 : AV) (v6 : List AV) : AC := .bind (.op (.saddr 1 v4 (nth v6 0)) fun v8 => zl v8 fun v9 => .op (.eq 238 true v9 Np) fun b0 => (a121x1 v0 v6 v9 b0)) (some 1) (fun v8 => zb .add (nth v6 0) (I 1) fun v9 => zm [v9]) (fun v8 => [(nth v6 0)])
def a121x3 (v0 : List AV) (v4 v5 : AV) : AC := .loop [(I 0)] (fun v6 => zb .lss (nth v6 0) v5 fun v7 => .ite v7 (a121x2 v0 v4 v6) (.ret (.exit 0) [(nth v6 0)])) (fun v6 => [(nth v6 0)])
def a121 : List AV → AC := fun v0 => zl (nth v0 1) fun v1 => zn v1 fun v2 => zf 0 v2 fun v3 => zl v3 fun v4 => .op (.len false v4) fun v5 => .bind (a121x3 v0 v4 v5) (some 0) (fun v6 => zr []) (fun v6 => [])
theorem e121 : denFn prog f121 [10] = a121 := by kernel_rfl
def a122x0 (v1 bh bk : AV) : AC := zi bh bk (B false) fun bl => zt bl (.faddr 1 v1) fun bm => zt bl (.load 1 false bm) fun bn => zt bl (.bin .lss bn (I 4096)) fun bo => zi bl bo (B false) fun bp => zr [bp]
def a122x1 (v1 bd be : AV) : AC := zt bd (.load 1 false be) fun bf => zt bd (.bin .lss bf (I 4096)) fun bg => zi bd bg (B false) fun bh => zt bh (.faddr 1 v1) fun bi => zt bh (.load 1 false bi) fun bj => zt bh (.bin .geq bj (I 0)) fun bk => (a122x0 v1 bh bk)
def a122x2 (v1 b6 b8 : AV) : AC := zi b6 b8 (B false) fun b9 => zt b9 (.faddr 0 v1) fun ba => zt b9 (.load 1 false ba) fun bb => zt b9 (.bin .geq bb (I 0)) fun bc => zi b9 bc (B false) fun bd => zt bd (.faddr 0 v1) fun be => (a122x1 v1 bd be)
def a122x3 (v1 v6 v9 b2 : AV) : AC := zi v9 b2 (B false) fun b3 => zt b3 (.mv v6) fun b4 => zt b3 (.bin .geq b4 (I 1)) fun b5 => zi b3 b5 (B false) fun b6 => zt b6 (.mv v6) fun b7 => zt b6 (.bin .leq b7 (I 128)) fun b8 => (a122x2 v1 b6 b8)
def a122x4 (v1 v6 : AV) : AC := zf 2 v1 fun v7 => zl v7 fun v8 => zb .geq v8 (I 1) fun v9 => zt v9 (.faddr 2 v1) fun b0 => zt v9 (.load 1 false b0) fun b1 => zt v9 (.bin .leq b1 (I 4)) fun b2 => (a122x3 v1 v6 v9 b2)
def a122 : List AV → AC := fun v0 => .op (.box (nth v0 0)) fun v1 => zf 3 v1 fun v2 => zf 0 v2 fun v3 => zf 0 v3 fun v4 => zf 2 v4 fun v5 => zl v5 fun v6 => (a122x4 v1 v6)
theorem e122 : denFn prog f122 [] = a122 := by kernel_rfl
def a123x0 (v1 v2 v4 v9 : AV) : AC := zf 2 v1 fun b0 => zl b0 fun b1 => .op (.build [(I 0), (I 0), (I 0)] [(0, 1, v4), (1, 1, v9), (2, 1, b1)]) fun b2 => .op (.store 3 v2 b2) fun b3 => zr [v2]
def a123x1 (v1 v2 v3 : AV) : AC := zl v3 fun v4 => zf 3 v1 fun v5 => zf 0 v5 fun v6 => zf 0 v6 fun v7 => zf 2 v7 fun v8 => zl v8 fun v9 => (a123x0 v1 v2 v4 v9)
def a123 : List AV → AC := fun v0 => .fin (.op (.box (nth v0 0)) fun v1 => .op (.alloc [(I 0), (I 0), (I 0)]) fun v2 => zf 0 v1 fun v3 => (a123x1 v1 v2 v3)) fun v1 => .op (.load 3 true (nth v1 0)) fun v2 => zr [v2]
theorem e123 : denFn prog f123 [] = a123 := by kernel_rfl
def a124x0 (v0 : List AV) (b9 bc : AV) : AC := zb .mul (nth v0 1) bc fun bd => zb .add b9 bd fun be => zb .add be (nth v0 2) fun bf => zr [bf]
def a124x1 (v0 : List AV) (v1 : AV) : AC := zf 0 v1 fun b8 => zl b8 fun b9 => zf 2 v1 fun ba => zl ba fun bb => .call (.fn (.method "coxswain/tower.cells") [] []) [(.iface 240 bb)] fun bc => .chk (.load 1 false b8) b9 (a124x0 v0 b9 bc)
def a124x2 (v0 : List AV) (v1 b0 b1 b2 : AV) : AC := zu b0 (.load 1 false b2) fun b3 => zu b0 (.mv (.iface 240 b3)) fun b4 => .gcall b0 false (.fn (.method "coxswain/tower.cells") [] []) [b4] fun b5 => zu b0 (.bin .geq b1 b5) fun b6 => zi b0 (B true) b6 fun b7 => .ite b7 (zr [(I (-1))]) (a124x1 v0 v1)
def a124x3 (v0 : List AV) (v1 v2 v6 : AV) : AC := zi v2 (B true) v6 fun v7 => zu v7 (.mv (nth v0 2)) fun v8 => zu v7 (.bin .lss v8 (I 0)) fun v9 => zi v7 (B true) v9 fun b0 => zu b0 (.mv (nth v0 2)) fun b1 => zu b0 (.faddr 2 v1) fun b2 => (a124x2 v0 v1 b0 b1 b2)
def a124 : List AV → AC := fun v0 => .op (.box (nth v0 0)) fun v1 => zb .lss (nth v0 1) (I 0) fun v2 => zu v2 (.mv (nth v0 1)) fun v3 => zu v2 (.faddr 1 v1) fun v4 => zu v2 (.load 1 false v4) fun v5 => zu v2 (.bin .geq v3 v5) fun v6 => (a124x3 v0 v1 v2 v6)
theorem e124 : denFn prog f124 [6] = a124 := by kernel_rfl
def a125x0 (v1 v2 v3 : AV) : AC := zl v3 fun v4 => zf 2 v1 fun v5 => zl v5 fun v6 => .op (.build [(I 0), (I 0), (I 0)] [(0, 1, v4), (1, 1, (I 1)), (2, 1, v6)]) fun v7 => .op (.store 3 v2 v7) fun v8 => zr [v2]
def a125 : List AV → AC := fun v0 => .fin (.op (.box (nth v0 0)) fun v1 => .op (.alloc [(I 0), (I 0), (I 0)]) fun v2 => zf 1 v1 fun v3 => (a125x0 v1 v2 v3)) fun v1 => .op (.load 3 true (nth v1 0)) fun v2 => zr [v2]
theorem e125 : denFn prog f125 [] = a125 := by kernel_rfl
def a126x0 (v0 : List AV) (b9 bc : AV) : AC := zb .mul (nth v0 1) bc fun bd => zb .add b9 bd fun be => zb .add be (nth v0 2) fun bf => zr [bf]
def a126x1 (v0 : List AV) (v1 : AV) : AC := zf 0 v1 fun b8 => zl b8 fun b9 => zf 2 v1 fun ba => zl ba fun bb => .call (.fn (.method "coxswain/tower.cells") [] []) [(.iface 244 bb)] fun bc => .chk (.load 1 false b8) b9 (a126x0 v0 b9 bc)
def a126x2 (v0 : List AV) (v1 b0 b1 b2 : AV) : AC := zu b0 (.load 1 false b2) fun b3 => zu b0 (.mv (.iface 244 b3)) fun b4 => .gcall b0 false (.fn (.method "coxswain/tower.cells") [] []) [b4] fun b5 => zu b0 (.bin .geq b1 b5) fun b6 => zi b0 (B true) b6 fun b7 => .ite b7 (zr [(I (-1))]) (a126x1 v0 v1)
def a126x3 (v0 : List AV) (v1 v2 v6 : AV) : AC := zi v2 (B true) v6 fun v7 => zu v7 (.mv (nth v0 2)) fun v8 => zu v7 (.bin .lss v8 (I 0)) fun v9 => zi v7 (B true) v9 fun b0 => zu b0 (.mv (nth v0 2)) fun b1 => zu b0 (.faddr 2 v1) fun b2 => (a126x2 v0 v1 b0 b1 b2)
def a126 : List AV → AC := fun v0 => .op (.box (nth v0 0)) fun v1 => zb .lss (nth v0 1) (I 0) fun v2 => zu v2 (.mv (nth v0 1)) fun v3 => zu v2 (.faddr 1 v1) fun v4 => zu v2 (.load 1 false v4) fun v5 => zu v2 (.bin .geq v3 v5) fun v6 => (a126x3 v0 v1 v2 v6)
theorem e126 : denFn prog f126 [6] = a126 := by kernel_rfl
def a127x0 (v0 v1 : List AV) : AC := zc 173 [(nth v0 0), (nth v1 3), (nth v1 0), (nth v0 4)] fun v4 => zr [(nth v1 0), (nth v1 1), (nth v1 2), (nth v1 3), (nth v1 4), (nth v1 5), (nth v1 6)]
def a127x1 (v0 v1 : List AV) (v5 : AV) : AC := .ite v5 (zc 175 [(nth v0 0), (nth v1 3), (nth v1 0), (nth v0 4)] fun v6 => zb .sub (nth v1 6) (I 1) fun v7 => zm [v7]) (zm [(nth v1 6)])
def a127x2 (v0 v1 : List AV) (v8 v9 b0 : AV) : AC := .ite b0 (zc 177 [(nth v0 0), (nth v1 3), (nth v1 0), (nth v0 4)] fun b1 => zb .sub (nth v1 0) (I 1) fun b2 => zb .sub v8 (nth v1 3) fun b3 => zb .sub b2 b3 fun b4 => zm [(I 1), b4]) (zm [v9, v8])
def a127x3 (v0 v1 : List AV) (b6 : AV) : AC := .ite b6 (zc 178 [(nth v0 0), (nth v1 3), (nth v1 0), (nth v0 4)] fun b7 => .ite b7 (zr []) (zm [])) (zm [])
def a127x4 (v0 v1 v6 : List AV) (bo bu : AV) : AC := zc 127 [(nth v0 0), (nth v1 3), bo, (nth v6 0), (nth v0 4)] fun bv => zb .add bo (I 1) fun bw => zm [(nth v1 0), bw, bu]
def a127x5 (v0 v1 v6 : List AV) (bo bu : AV) : AC := zb .add bo (I 1) fun bv => zc 127 [(nth v0 0), bv, (nth v1 0), (nth v6 0), (nth v0 4)] fun bw => zm [bo, (nth v1 3), bu]
def a127x6 (v0 v1 v6 b1 : List AV) (bo bp bq br bs bt : AV) : AC := .bind (.ite bt (zb .geq bq bs fun bu => (a127x4 v0 v1 v6 bo bu)) (zb .geq br bs fun bu => (a127x5 v0 v1 v6 bo bu))) none (fun bu => zm [(nth bu 0), (nth bu 2), bp, (nth bu 1), (nth b1 0), (nth b1 1), (nth v6 0)]) (fun bu => [(nth bu 0), (nth bu 2), bp, (nth bu 1), (nth b1 0), (nth b1 1), (nth v6 0)])
def a127x7 (v0 v1 : List AV) (v2 : AV) (v6 b1 : List AV) (bn : AV) : AC := .op (.extract 0 bn) fun bo => .op (.extract 1 bn) fun bp => zb .sub bo (nth v1 3) fun bq => zb .sub (nth v1 0) bo fun br => zb .quo v2 (I 8) fun bs => zb .lss bq br fun bt => (a127x6 v0 v1 v6 b1 bo bp bq br bs bt)
def a127x8 (v0 v1 : List AV) (v2 : AV) (v6 b1 : List AV) (b8 bj : AV) : AC := zt b8 (.bin .lss bj (I 0)) fun bk => zt b8 (.un .not bk) fun bl => zi b8 bl (B false) fun bm => .ite bm (zc 179 [(nth v0 0), (nth v1 3), (nth v1 0), (nth b1 1), (nth v0 4)] fun bn => .ret (.exit 1) [(nth v1 0), (nth v1 1), (nth v1 2), bn, (nth b1 0), (nth b1 1), (nth v6 0)]) (zc 180 [(nth v0 0), (nth v1 3), (nth v1 0), (nth b1 1), (nth v0 4)] fun bn => (a127x7 v0 v1 v2 v6 b1 bn))
def a127x9 (v0 v1 : List AV) (v2 : AV) (v6 b1 : List AV) (b8 b9 bd : AV) : AC := zt b8 (.load 4 true bd) fun be => zt b8 (.mv (nth v0 0)) fun bf => zt b8 (.mv (nth b1 1)) fun bg => zt b8 (.saddr 4 bf bg) fun bh => zt b8 (.load 4 true bh) fun bi => .gcall b8 true b9 [be, bi] fun bj => (a127x8 v0 v1 v2 v6 b1 b8 bj)
def a127x10 (v0 v1 : List AV) (v2 : AV) (v6 b1 : List AV) : AC := zb .gtr (nth v1 3) (I 0) fun b8 => zt b8 (.mv (nth v0 4)) fun b9 => zt b8 (.mv (nth v0 0)) fun ba => zt b8 (.mv (nth v1 3)) fun bb => zt b8 (.bin .sub bb (I 1)) fun bc => zt b8 (.saddr 4 ba bc) fun bd => (a127x9 v0 v1 v2 v6 b1 b8 b9 bd)
def a127x11 (v0 v1 : List AV) (v2 : AV) (v6 b1 : List AV) : AC := zt (nth v1 1) (.mv (nth v1 2)) fun b2 => zi (nth v1 1) b2 (B false) fun b3 => zt b3 (.mv (nth b1 0)) fun b4 => zt b3 (.bin .eql b4 (I 1)) fun b5 => zi b3 b5 (B false) fun b6 => .bind (a127x3 v0 v1 b6) none (fun b7 => (a127x10 v0 v1 v2 v6 b1)) (fun b7 => [(nth v1 0), (nth v1 1), (nth v1 2), (nth v1 3), (nth b1 0), (nth b1 1), (nth v6 0)])
def a127x12 (v0 v1 : List AV) (v2 : AV) (v6 : List AV) : AC := zc 176 [(nth v0 0), (nth v1 3), (nth v1 0), (nth v0 4)] fun v7 => .op (.extract 0 v7) fun v8 => .op (.extract 1 v7) fun v9 => zb .eql v9 (I 2) fun b0 => .bind (a127x2 v0 v1 v8 v9 b0) none (fun b1 => (a127x11 v0 v1 v2 v6 b1)) (fun b1 => [(nth v1 0), (nth v1 1), (nth v1 2), (nth v1 3), (nth b1 0), (nth b1 1), (nth v6 0)])
def a127x13 (v0 v1 : List AV) (v2 : AV) : AC := zb .eql (nth v1 6) (I 0) fun v4 => .ite v4 (zc 174 [(nth v0 0), (nth v1 3), (nth v1 0), (nth v0 4)] fun v5 => zr [(nth v1 0), (nth v1 1), (nth v1 2), (nth v1 3), (nth v1 4), (nth v1 5), (nth v1 6)]) (.op (.un .not (nth v1 1)) fun v5 => .bind (a127x1 v0 v1 v5) none (fun v6 => (a127x12 v0 v1 v2 v6)) (fun v6 => [(nth v1 0), (nth v1 1), (nth v1 2), (nth v1 3), (nth v1 4), (nth v1 5), (nth v6 0)]))
def a127x14 (v0 v1 : List AV) : AC := .bind (zb .sub (nth v1 0) (nth v1 3) fun v2 => zb .leq v2 (I 12) fun v3 => .ite v3 (a127x0 v0 v1) (a127x13 v0 v1 v2)) (some 1) (fun v2 => zm [(nth v2 0), (nth v2 1), (nth v2 2), (nth v2 3), (nth v2 4), (nth v2 5), (nth v2 6)]) (fun v2 => [(nth v2 0), (nth v2 1), (nth v2 2), (nth v2 3), (nth v2 4), (nth v2 5), (nth v2 6)])
def a127 : List AV → AC := fun v0 => .bind (.loop [(nth v0 2), (B true), (B true), (nth v0 1), .no, .no, (nth v0 3)] (fun v1 => (a127x14 v0 v1)) (fun v1 => [(nth v1 0), (nth v1 1), (nth v1 2), (nth v1 3), (nth v1 4), (nth v1 5), (nth v1 6)])) (some 0) (fun v1 => zr []) (fun v1 => [])
theorem e127 : denFn prog f127 [3, 1, 11, 10, 2, 13, 14] = a127 := by kernel_rfl
def a128 : List AV → AC := fun v0 => .ite (B false) (.op (.conv .u32 (nth v0 0)) fun v1 => zc 181 [v1] fun v2 => zr [v2]) (zc 182 [(nth v0 0)] fun v1 => zr [v1])
theorem e128 : denFn prog f128 [2] = a128 := by kernel_rfl
def a129x0 (v0 v2 : List AV) : AC := .op (.saddr 1 (nth v0 0) (nth v2 0)) fun v4 => .op (.load 1 false v4) fun v5 => .op (.bin .neq v5 (I 0)) fun v6 => .ite v6 (.ret .ret [v5]) (.ret .normal [(nth v2 1)])
def a129x1 (v2 v4 : List AV) : AC := .op (.bin .add (nth v2 0) (I 1)) fun v5 => .ret .normal [v5, (nth v4 0)]
def a129x2 (v0 : List AV) (v1 : AV) (v2 : List AV) : AC := .op (.bin .lss (nth v2 0) v1) fun v3 => .ite v3 (.bind (a129x0 v0 v2) (some 1) (fun v4 => (a129x1 v2 v4)) (fun v4 => [(nth v2 0), (nth v4 0)])) (.ret (.exit 0) [(nth v2 0), (nth v2 1)])
def a129 : List AV → AC := fun v0 => .op (.len false (nth v0 0)) fun v1 => .bind (.loop [(I 0), (I 0)] (fun v2 => (a129x2 v0 v1 v2)) (fun v2 => [(nth v2 0), (nth v2 1)])) (some 0) (fun v2 => .ret .ret [(I 0)]) (fun v2 => [(nth v2 1)])
theorem e129 : denFn prog f129 [2, 8] = a129 := by kernel_rfl
def a130x0 (v0 : List AV) : AC := zb .lss (nth v0 0) (nth v0 1) fun v3 => .ite v3 (zr [(I (-1))]) (zb .gtr (nth v0 0) (nth v0 1) fun v4 => .ite v4 (zr [(I 1)]) (zr [(I 0)]))
def a130 : List AV → AC := fun v0 => zc 183 [(nth v0 0)] fun v1 => zc 183 [(nth v0 1)] fun v2 => .ite v1 (.ite v2 (zr [(I 0)]) (zr [(I (-1))])) (.ite v2 (zr [(I 1)]) (a130x0 v0))
theorem e130 : denFn prog f130 [4] = a130 := by kernel_rfl
def a131x0 (v0 : List AV) : AC := .op (.bin .lss (nth v0 0) (nth v0 1)) fun v3 => .ite v3 (.ret .ret [(I (-1))]) (.op (.bin .gtr (nth v0 0) (nth v0 1)) fun v4 => .ite v4 (.ret .ret [(I 1)]) (.ret .ret [(I 0)]))
def a131 : List AV → AC := fun v0 => .call (.fn (.func 184) [] []) [(nth v0 0)] fun v1 => .call (.fn (.func 184) [] []) [(nth v0 1)] fun v2 => .ite v1 (.ite v2 (.ret .ret [(I 0)]) (.ret .ret [(I (-1))])) (.ite v2 (.ret .ret [(I 1)]) (a131x0 v0))
theorem e131 : denFn prog f131 [4] = a131 := by kernel_rfl
def a132x0 (v4 v6 : AV) : AC := zt v4 (.bin .leq v6 (I 64)) fun v7 => zi v4 v7 (B false) fun v8 => zr [v8]
def a132 : List AV → AC := fun v0 => .op (.box (nth v0 0)) fun v1 => zf 2 v1 fun v2 => zl v2 fun v3 => zb .geq v3 (I 1) fun v4 => zt v4 (.faddr 2 v1) fun v5 => zt v4 (.load 1 false v5) fun v6 => (a132x0 v4 v6)
theorem e132 : denFn prog f132 [] = a132 := by kernel_rfl
def a133x0 (v1 b2 : AV) : AC := zt b2 (.faddr 2 v1) fun b3 => zt b2 (.load 1 false b3) fun b4 => zt b2 (.bin .leq b4 (I 16)) fun b5 => zi b2 b5 (B false) fun b6 => zr [b6]
def a133x1 (v1 v4 v6 : AV) : AC := zt v4 (.bin .leq v6 (I 64)) fun v7 => zi v4 v7 (B false) fun v8 => zt v8 (.faddr 2 v1) fun v9 => zt v8 (.load 1 false v9) fun b0 => zt v8 (.bin .geq b0 (I 1)) fun b1 => zi v8 b1 (B false) fun b2 => (a133x0 v1 b2)
def a133 : List AV → AC := fun v0 => .op (.box (nth v0 0)) fun v1 => zf 1 v1 fun v2 => zl v2 fun v3 => zb .geq v3 (I 1) fun v4 => zt v4 (.faddr 1 v1) fun v5 => zt v4 (.load 1 false v5) fun v6 => (a133x1 v1 v4 v6)
theorem e133 : denFn prog f133 [] = a133 := by kernel_rfl
def a134x0 (v0 v3 : List AV) (b6 : AV) : AC := .call (nth v0 0) [(nth v3 0), b6] fun b7 => .op (.un .not b7) fun b8 => .ite b8 (zr []) (zm [])
def a134x1 (v0 v3 : List AV) (v6 b0 : AV) : AC := zb .add v6 b0 fun b1 => zb .add b1 (I 1) fun b2 => zb .add b1 (I 2) fun b3 => zf 2 (nth v0 1) fun b4 => zl b4 fun b5 => .op (.build [(I 0), (I 0), (I 0), (I 0)] [(0, 1, b1), (1, 1, b2), (2, 1, b3), (3, 1, b5)]) fun b6 => (a134x0 v0 v3 b6)
def a134x2 (v0 v3 : List AV) : AC := zf 0 (nth v0 1) fun v5 => zl v5 fun v6 => zf 2 (nth v0 1) fun v7 => zl v7 fun v8 => zb .add v8 (I 2) fun v9 => zb .mul (nth v3 0) v9 fun b0 => (a134x1 v0 v3 v6 b0)
def a134x3 (v3 : List AV) : AC := zb .add (nth v3 0) (I 1) fun v6 => zm [v6]
def a134x4 (v0 : List AV) (v2 : AV) (v3 : List AV) : AC := zb .lss (nth v3 0) v2 fun v4 => .ite v4 (.bind (a134x2 v0 v3) (some 1) (fun v5 => (a134x3 v3)) (fun v5 => [(nth v3 0)])) (.ret (.exit 0) [(nth v3 0)])
def a134 : List AV → AC := fun v0 => zf 1 (nth v0 1) fun v1 => zl v1 fun v2 => .bind (.loop [(I 0)] (fun v3 => (a134x4 v0 v2 v3)) (fun v3 => [(nth v3 0)])) (some 0) (fun v3 => zr []) (fun v3 => [])
theorem e134 : denFn prog f134 [7] = a134 := by kernel_rfl
def a135x0 (v4 v6 : AV) : AC := zt v4 (.bin .leq v6 (I 4096)) fun v7 => zi v4 v7 (B false) fun v8 => zr [v8]
def a135 : List AV → AC := fun v0 => .op (.box (nth v0 0)) fun v1 => zf 3 v1 fun v2 => zl v2 fun v3 => zb .geq v3 (I 1) fun v4 => zt v4 (.faddr 3 v1) fun v5 => zt v4 (.load 1 false v5) fun v6 => (a135x0 v4 v6)
theorem e135 : denFn prog f135 [] = a135 := by kernel_rfl
def a136x0 (v0 : List AV) (v6 : AV) : AC := .ite v6 (zr [(U 0)]) (zl (nth v0 1) fun v7 => .op (.saddr 1 v7 (nth v0 0)) fun v8 => zl v8 fun v9 => zr [v9])
def a136 : List AV → AC := fun v0 => zb .lss (nth v0 0) (I 0) fun v1 => zu v1 (.mv (nth v0 0)) fun v2 => zu v1 (.load 1 false (nth v0 1)) fun v3 => zu v1 (.len false v3) fun v4 => zu v1 (.bin .geq v2 v4) fun v5 => zi v1 (B true) v5 fun v6 => (a136x0 v0 v6)
theorem e136 : denFn prog f136 [3] = a136 := by kernel_rfl
def a137 : List AV → AC := fun v0 => .op (.box (nth v0 0)) fun v1 => .op (.box (nth v0 1)) fun v2 => zr [(.fn (.func 185) [] [v2, v1])]
theorem e137 : denFn prog f137 [] = a137 := by kernel_rfl
def a138x0 (v0 : List AV) (v3 v6 : AV) : AC := zb .rem (nth v0 1) v6 fun v7 => .op (.conv .i64 v7) fun v8 => zb .add v3 v8 fun v9 => zr [v9]
def a138 : List AV → AC := fun v0 => .op (.box (nth v0 0)) fun v1 => zf 2 v1 fun v2 => zl v2 fun v3 => zf 3 v1 fun v4 => zl v4 fun v5 => .op (.conv .u64 v5) fun v6 => (a138x0 v0 v3 v6)
theorem e138 : denFn prog f138 [] = a138 := by kernel_rfl
def a139 : List AV → AC := fun v0 => zb .and (nth v0 0) (U 65535) fun v1 => .op (.conv .i64 v1) fun v2 => zr [v2]
theorem e139 : denFn prog f139 [] = a139 := by kernel_rfl
def a140x0 (b3 b4 : AV) : AC := zs b4 b3 fun b5 => zr [(I 0)]
def a140x1 (v0 : List AV) (v8 : AV) : AC := zf 0 v8 fun v9 => zl v9 fun b0 => .op (.build [(I 0), (I 0), (I 0)] [(0, 1, (nth v0 1)), (1, 1, (nth v0 2))]) fun b1 => .op (.build [(I 0), (I 0), (I 0)] [(0, 3, b1)]) fun b2 => .op (.box b2) fun b3 => .op (.saddr 1 b0 (nth v0 1)) fun b4 => (a140x0 b3 b4)
def a140x2 (v0 : List AV) (v4 : AV) : AC := zc 189 [v4, (nth v0 1)] fun v5 => .op (.eq 238 true v5 Np) fun v6 => .ite v6 (zr [(I 14)]) (zn (nth v0 0) fun v7 => zf 0 v7 fun v8 => (a140x1 v0 v8))
def a140 : List AV → AC := fun v0 => zc 188 [(nth v0 0), (nth v0 1)] fun v1 => zb .neq v1 (I 0) fun v2 => .ite v2 (zr [v1]) (zn (nth v0 0) fun v3 => zf 0 v3 fun v4 => (a140x2 v0 v4))
theorem e140 : denFn prog f140 [6] = a140 := by kernel_rfl
def a141 : List AV → AC := fun v0 => .op (.eq 204 false (nth v0 0) Np) fun v1 => .ite v1 (zr [(I 0)]) (zn (nth v0 0) fun v2 => zf 29 v2 fun v3 => zl v3 fun v4 => zr [v4])
theorem e141 : denFn prog f141 [2] = a141 := by kernel_rfl
def a142x0 (v4 : AV) : AC := zn v4 fun v8 => zf 38 v8 fun v9 => zs v9 (I 3) fun b0 => zm []
def a142x1 (v0 : List AV) (v4 v7 : AV) : AC := .ite v7 (zn v4 fun v8 => zf 38 v8 fun v9 => zs v9 (I 2) fun b0 => zm []) (.bind (.ite (nth v0 3) (a142x0 v4) (zm [])) none (fun v8 => zm []) (fun v8 => []))
def a142x2 (v0 : List AV) (v1 v4 : AV) : AC := .op (.load 29 true v1) fun v5 => zc 53 [v5] fun v6 => .op (.un .not v6) fun v7 => .bind (a142x1 v0 v4 v7) none (fun v8 => zm []) (fun v8 => [])
def a142x3 (v4 : AV) : AC := zn v4 fun v6 => zf 0 v6 fun v7 => zf 28 v7 fun v8 => zs v8 Ns fun v9 => zr [v4]
def a142 : List AV → AC := fun v0 => .op (.box (nth v0 0)) fun v1 => .op (.load 29 true v1) fun v2 => .op (.build [(I 0), (I 0), (I 0), (I 0), (I 0), (I 0), (I 0), (I 0), (I 0), (I 0), (I 0), (I 0), (I 0), (I 0), (I 0), (I 0), (I 0), (I 0), (I 0), (I 0), (I 0), (I 0), (I 0), (I 0), (I 0), (I 0), (I 0), (I 0), Ns, (I 0), (I 0), Ns, Ns, (I 0), (U 0), (U 0), (B false), (U 0), (I 0)] [(0, 29, v2), (29, 1, (nth v0 1)), (30, 1, (nth v0 2))]) fun v3 => .op (.box v3) fun v4 => .bind (a142x2 v0 v1 v4) (some 0) (fun v5 => (a142x3 v4)) (fun v5 => [Np])
theorem e142 : denFn prog f142 [] = a142 := by kernel_rfl
def a143x0 (v1 v3 v4 : AV) : AC := .op (.append 1 8 v3 v4) fun v5 => zs v1 v5 fun v6 => zm []
def a143x1 (v1 : AV) (v2 : List AV) : AC := .start (nth v2 0) (.bind (zl v1 fun v3 => .op (.bslice 1 1 [Nf] [(0, 1, (nth v2 1))]) fun v4 => (a143x0 v1 v3 v4)) (some 1) (fun v3 => zm []) (fun v3 => []))
def a143x2 (v0 : List AV) (b0 b3 : AV) : AC := .op (.bslice 1 1 [Nf] [(0, 1, b3)]) fun b4 => .op (.append 1 8 b0 b4) fun b5 => zn (nth v0 0) fun b6 => zf 31 b6 fun b7 => zs b7 b5 fun b8 => zm []
def a143x3 (v0 : List AV) (v1 : AV) (v6 : List AV) : AC := zn (nth v0 0) fun v8 => zf 31 v8 fun v9 => zl v9 fun b0 => zl v1 fun b1 => .op (.saddr 1 b1 (nth v6 0)) fun b2 => zl b2 fun b3 => (a143x2 v0 b0 b3)
def a143x4 (v6 : List AV) : AC := zb .sub (nth v6 0) (I 1) fun v9 => zm [v9]
def a143x5 (v0 : List AV) (v1 : AV) (v6 : List AV) : AC := zb .geq (nth v6 0) (I 0) fun v7 => .ite v7 (.bind (a143x3 v0 v1 v6) (some 3) (fun v8 => (a143x4 v6)) (fun v8 => [(nth v6 0)])) (.ret (.exit 2) [(nth v6 0)])
def a143x6 (v0 : List AV) (v1 v4 : AV) : AC := zb .sub v4 (I 1) fun v5 => .bind (.loop [v5] (fun v6 => (a143x5 v0 v1 v6)) (fun v6 => [(nth v6 0)])) (some 2) (fun v6 => zr []) (fun v6 => [])
def a143 : List AV → AC := fun v0 => .op (.alloc [Ns]) fun v1 => .bind (.rng 1 (nth v0 1) (fun v2 => (a143x1 v1 v2)) (zm []) []) (some 0) (fun v2 => zl v1 fun v3 => .op (.len false v3) fun v4 => (a143x6 v0 v1 v4)) (fun v2 => [])
theorem e143 : denFn prog f143 [6] = a143 := by kernel_rfl
def a144 : List AV → AC := fun v0 => .op (.box (nth v0 0)) fun v1 => .op (.box (nth v0 1)) fun v2 => .op (.box (nth v0 2)) fun v3 => .op (.box (nth v0 3)) fun v4 => zr [(.fn (.func 190) [] [v1, v3, v2, v4])]
theorem e144 : denFn prog f144 [] = a144 := by kernel_rfl
def a145x0 (v0 : List AV) (v2 b8 : AV) : AC := zc 142 [v2, (nth v0 1), (nth v0 2), b8] fun b9 => zr [b9]
def a145x1 (v0 : List AV) (v1 v2 b2 : AV) : AC := zu b2 (.mv (nth v0 3)) fun b3 => zu b2 (.faddr 0 v1) fun b4 => zu b2 (.faddr 2 b4) fun b5 => zu b2 (.load 1 false b5) fun b6 => zu b2 (.bin .gtr b3 b6) fun b7 => zi b2 (B true) b7 fun b8 => (a145x0 v0 v2 b8)
def a145x2 (v0 : List AV) (v1 v2 v3 v4 v6 : AV) : AC := zu v3 (.load 1 false v6) fun v7 => zu v3 (.bin .geq v4 v7) fun v8 => zi v3 (B true) v8 fun v9 => zu v9 (.mv (nth v0 3)) fun b0 => zu v9 (.bin .lss b0 (I 1)) fun b1 => zi v9 (B true) b1 fun b2 => (a145x1 v0 v1 v2 b2)
def a145 : List AV → AC := fun v0 => .op (.box (nth v0 0)) fun v1 => .op (.load 29 true v1) fun v2 => zb .lss (nth v0 2) (I 0) fun v3 => zu v3 (.mv (nth v0 2)) fun v4 => zu v3 (.faddr 23 v1) fun v5 => zu v3 (.faddr 2 v5) fun v6 => (a145x2 v0 v1 v2 v3 v4 v6)
theorem e145 : denFn prog f145 [] = a145 := by kernel_rfl
def a146x0 (v1 v2 v7 b1 b2 : AV) : AC := zc 216 [v7, b1] fun b3 => .op (.extract 0 b3) fun b4 => .op (.extract 1 b3) fun b5 => .op (.store 4 b2 b4) fun b6 => zr [(.fn (.func 217) [] [v1, b2, v2])]
def a146x1 (v1 v2 v6 : AV) : AC := .op (.load 3 true v6) fun v7 => zl v1 fun v8 => zn v8 fun v9 => zf 30 v9 fun b0 => zl b0 fun b1 => .op (.alloc [(I 0), (I 0), (I 0), (I 0)]) fun b2 => (a146x0 v1 v2 v7 b1 b2)
def a146 : List AV → AC := fun v0 => .op (.box (nth v0 0)) fun v1 => .op (.box (nth v0 1)) fun v2 => zl v1 fun v3 => zn v3 fun v4 => zf 0 v4 fun v5 => zf 20 v5 fun v6 => (a146x1 v1 v2 v6)
theorem e146 : denFn prog f146 [] = a146 := by kernel_rfl
def a147 : List AV → AC := fun v0 => zc 228 [(nth v0 0)] fun v1 => .ite v1 (zr [(I 1)]) (zc 230 [(nth v0 0)] fun v2 => zc 229 [v2, (nth v0 1)] fun v3 => zr [v3])
theorem e147 : denFn prog f147 [4] = a147 := by kernel_rfl
def a148 : List AV → AC := fun v0 => .op (.box (nth v0 0)) fun v1 => zr [(.fn (.func 231) [] [v1])]
theorem e148 : denFn prog f148 [] = a148 := by kernel_rfl
def a149x0 (v1 v2 v8 b2 : AV) : AC := zb .add v8 b2 fun b3 => .op (.alloc [(I 0)]) fun b4 => zs b4 b3 fun b5 => zr [(.fn (.func 235) [] [b4, v1, v2])]
def a149x1 (v1 v2 v6 : AV) : AC := zf 1 v6 fun v7 => zl v7 fun v8 => zl v1 fun v9 => zn v9 fun b0 => zf 30 b0 fun b1 => zl b1 fun b2 => (a149x0 v1 v2 v8 b2)
def a149 : List AV → AC := fun v0 => .op (.box (nth v0 0)) fun v1 => .op (.box (nth v0 1)) fun v2 => zl v1 fun v3 => zn v3 fun v4 => zf 0 v4 fun v5 => zf 23 v5 fun v6 => (a149x1 v1 v2 v6)
theorem e149 : denFn prog f149 [] = a149 := by kernel_rfl
def a151x0 (v0 : List AV) (bi bj : AV) : AC := .op (.append 1 8 bi bj) fun bk => zn (nth v0 0) fun bl => zf 31 bl fun bm => zs bm bk fun bn => zm []
def a151x1 (v0 : List AV) (b1 bf : AV) : AC := .ite bf (zn (nth v0 0) fun bg => zf 31 bg fun bh => zl bh fun bi => .op (.bslice 1 1 [Nf] [(0, 1, b1)]) fun bj => (a151x0 v0 bi bj)) (zm [])
def a151x2 (v0 : List AV) : AC := zc 154 [(nth v0 0)] fun bh => zr [bh]
def a151x3 (v0 : List AV) (b1 ba bb bc : AV) : AC := zf 37 bc fun bd => zs bd bb fun be => .op (.un .not ba) fun bf => .bind (a151x1 v0 b1 bf) none (fun bg => (a151x2 v0)) (fun bg => [(B false)])
def a151x4 (v0 : List AV) (b1 b5 b6 : AV) : AC := zf 31 b6 fun b7 => zs b7 b5 fun b8 => .call b1 [(nth v0 1)] fun b9 => .op (.extract 0 b9) fun ba => .op (.extract 1 b9) fun bb => zn (nth v0 0) fun bc => (a151x3 v0 b1 ba bb bc)
def a151x5 (v0 : List AV) (v6 b0 : AV) : AC := zl b0 fun b1 => zn (nth v0 0) fun b2 => zf 31 b2 fun b3 => zl b3 fun b4 => .op (.sslice 1 b4 none (some v6) (some v6)) fun b5 => zn (nth v0 0) fun b6 => (a151x4 v0 b1 b5 b6)
def a151x6 (v0 : List AV) (v4 : AV) : AC := .op (.len false v4) fun v5 => zb .sub v5 (I 1) fun v6 => zn (nth v0 0) fun v7 => zf 31 v7 fun v8 => zl v8 fun v9 => .op (.saddr 1 v9 v6) fun b0 => (a151x5 v0 v6 b0)
def a151 : List AV → AC := fun v0 => zc 154 [(nth v0 0)] fun v1 => .ite v1 (zr [(B true)]) (zn (nth v0 0) fun v2 => zf 31 v2 fun v3 => zl v3 fun v4 => (a151x6 v0 v4))
theorem e151 : denFn prog f151 [4] = a151 := by kernel_rfl
def a152x0 (b9 ba : AV) : AC := zf 2 ba fun bb => zs bb b9 fun bc => zr [(I 0)]
def a152x1 (v0 : List AV) (b1 b4 : AV) : AC := zs b4 b1 fun b5 => zn (nth v0 0) fun b6 => zf 2 b6 fun b7 => zl b7 fun b8 => zb .add b8 (I 1) fun b9 => zn (nth v0 0) fun ba => (a152x0 b9 ba)
def a152x2 (v0 : List AV) (v5 v8 : AV) : AC := zf 2 v8 fun v9 => zl v9 fun b0 => zb .add b0 (I 1) fun b1 => zn v5 fun b2 => zf 0 b2 fun b3 => zf 2 b3 fun b4 => (a152x1 v0 b1 b4)
def a152x3 (v0 : List AV) (v4 : AV) : AC := zc 189 [v4, (nth v0 1)] fun v5 => .op (.eq 238 false v5 Np) fun v6 => .ite v6 (zr [(I 15)]) (zn v5 fun v7 => zf 0 v7 fun v8 => (a152x2 v0 v5 v8))
def a152 : List AV → AC := fun v0 => zc 188 [(nth v0 0), (nth v0 1)] fun v1 => zb .neq v1 (I 0) fun v2 => .ite v2 (zr [v1]) (zn (nth v0 0) fun v3 => zf 0 v3 fun v4 => (a152x3 v0 v4))
theorem e152 : denFn prog f152 [4] = a152 := by kernel_rfl
def a153x0 (v0 : List AV) (ba : AV) : AC := zl ba fun bb => .op (.saddr 1 bb (nth v0 1)) fun bc => zs bc Np fun bd => zr [(I 0)]
def a153x1 (v0 : List AV) (b4 : AV) : AC := zn (nth v0 0) fun b5 => zf 1 b5 fun b6 => zs b6 b4 fun b7 => zn (nth v0 0) fun b8 => zf 0 b8 fun b9 => zf 0 b9 fun ba => (a153x0 v0 ba)
def a153x2 (v0 : List AV) (v5 v8 : AV) : AC := zl v8 fun v9 => zn v5 fun b0 => zf 0 b0 fun b1 => .op (.load 3 true b1) fun b2 => .op (.bslice 3 1 [(I 0), (I 0), (I 0)] [(0, 3, b2)]) fun b3 => .op (.append 3 24 v9 b3) fun b4 => (a153x1 v0 b4)
def a153x3 (v0 : List AV) (v4 : AV) : AC := zc 189 [v4, (nth v0 1)] fun v5 => .op (.eq 238 false v5 Np) fun v6 => .ite v6 (zr [(I 15)]) (zn (nth v0 0) fun v7 => zf 1 v7 fun v8 => (a153x2 v0 v5 v8))
def a153 : List AV → AC := fun v0 => zc 188 [(nth v0 0), (nth v0 1)] fun v1 => zb .neq v1 (I 0) fun v2 => .ite v2 (zr [v1]) (zn (nth v0 0) fun v3 => zf 0 v3 fun v4 => (a153x3 v0 v4))
theorem e153 : denFn prog f153 [4] = a153 := by kernel_rfl
def a154x0 (v1 v6 : AV) : AC := zu v1 (.bin .eql v6 (I 0)) fun v7 => zi v1 (B true) v7 fun v8 => zr [v8]
def a154 : List AV → AC := fun v0 => .op (.eq 204 false (nth v0 0) Np) fun v1 => zu v1 (.mv (nth v0 0)) fun v2 => zu v1 (.nilchk v2) fun v3 => zu v1 (.faddr 31 v3) fun v4 => zu v1 (.load 1 false v4) fun v5 => zu v1 (.len false v5) fun v6 => (a154x0 v1 v6)
theorem e154 : denFn prog f154 [] = a154 := by kernel_rfl
def a155 : List AV → AC := fun v0 => .op (.box (nth v0 0)) fun v1 => .ret .ret [(.fn (.func 243) [] [v1])]
theorem e155 : denFn prog f155 [] = a155 := by kernel_rfl
def a156x0 (v1 bk : AV) : AC := .op (.faddr 0 v1) fun bl => .op (.load 1 false bl) fun bm => .op (.load 2 true v1) fun bn => .op (.mapset 3 bk bm bn) fun bo => .ret .ret []
def a156x1 (v0 : List AV) (v1 b4 b9 bc be : AV) : AC := .call (.fn (.func 248) [] []) [bc, b9, be] fun bf => .op (.nilchk b4) fun bg => .op (.store 1 bg bf) fun bh => .op (.nilchk (nth v0 0)) fun bi => .op (.faddr 178 bi) fun bj => .op (.load 1 false bj) fun bk => (a156x0 v1 bk)
def a156x2 (v0 : List AV) (v1 b4 b8 : AV) : AC := .op (.extract 0 b8) fun b9 => .op (.extract 1 b8) fun ba => .op (.nilchk b4) fun bb => .op (.load 1 false bb) fun bc => .op (.load 2 true v1) fun bd => .op (.bslice 2 1 [(I 0), (I 0)] [(0, 2, bd)]) fun be => (a156x1 v0 v1 b4 b9 bc be)
def a156x3 (v0 : List AV) (v1 v8 b0 b2 : AV) : AC := .op (.paddr 11 16 b2 v8) fun b3 => .op (.paddr 16 1 b3 b0) fun b4 => .op (.nilchk b4) fun b5 => .op (.load 1 false b5) fun b6 => .op (.load 2 true v1) fun b7 => .call (.fn (.func 246) [] []) [b6, b7, (.fn (.func 247) [] [])] fun b8 => (a156x2 v0 v1 b4 b8)
def a156x4 (v0 : List AV) (v1 v5 : AV) : AC := .op (.faddr 0 v5) fun v7 => .op (.load 1 false v7) fun v8 => .op (.faddr 1 v5) fun v9 => .op (.load 1 false v9) fun b0 => .op (.nilchk (nth v0 0)) fun b1 => .op (.faddr 2 b1) fun b2 => (a156x3 v0 v1 v8 b0 b2)
def a156 : List AV → AC := fun v0 => .op (.box (nth v0 1)) fun v1 => .op (.faddr 1 v1) fun v2 => .op (.load 1 false v2) fun v3 => .call (.fn (.func 245) [] []) [(nth v0 0), v3] fun v4 => .op (.alloc [(I 0), (I 0)]) fun v5 => .op (.store 2 v5 v4) fun v6 => (a156x4 v0 v1 v5)
theorem e156 : denFn prog f156 [] = a156 := by kernel_rfl
def a157x0 (v0 v2 : List AV) : AC := .op (.saddr 1 (nth v0 0) (nth v2 0)) fun v4 => .op (.load 1 false v4) fun v5 => .op (.bin .neq v5 (I 0)) fun v6 => .ite v6 (.ret .ret [v5]) (.ret .normal [(nth v2 1)])
def a157x1 (v2 v4 : List AV) : AC := .op (.bin .add (nth v2 0) (I 1)) fun v5 => .ret .normal [v5, (nth v4 0)]
def a157x2 (v0 : List AV) (v1 : AV) (v2 : List AV) : AC := .op (.bin .lss (nth v2 0) v1) fun v3 => .ite v3 (.bind (a157x0 v0 v2) (some 1) (fun v4 => (a157x1 v2 v4)) (fun v4 => [(nth v2 0), (nth v4 0)])) (.ret (.exit 0) [(nth v2 0), (nth v2 1)])
def a157 : List AV → AC := fun v0 => .op (.len false (nth v0 0)) fun v1 => .bind (.loop [(I 0), (I 0)] (fun v2 => (a157x2 v0 v1 v2)) (fun v2 => [(nth v2 0), (nth v2 1)])) (some 0) (fun v2 => .ret .ret [(I 0)]) (fun v2 => [(nth v2 1)])
theorem e157 : denFn prog f157 [2, 8] = a157 := by kernel_rfl
def a158x0 (v0 : List AV) : AC := .op (.nilchk (nth v0 0)) fun v3 => .op (.faddr 0 v3) fun v4 => .op (.load 1 false v4) fun v5 => .op (.bin .lss (nth v0 1) v5) fun v6 => .ite v6 (.ret .ret [(I 9)]) (.ret .normal [(I 0)])
def a158 : List AV → AC := fun v0 => .bind (.call (.fn (.func 117) [] []) [(nth v0 1)] fun v1 => .op (.un .not v1) fun v2 => .ite v2 (.ret .ret [(I 3)]) (a158x0 v0)) (some 0) (fun v1 => .ret .ret [(I 0)]) (fun v1 => [(nth v1 0)])
theorem e158 : denFn prog f158 [4] = a158 := by kernel_rfl
def a159 : List AV → AC := fun v0 => .op (.box (nth v0 0)) fun v1 => .op (.box (nth v0 1)) fun v2 => .ret .ret [(.fn (.func 249) [] [v1, v2])]
theorem e159 : denFn prog f159 [] = a159 := by kernel_rfl
def a160x0 (v0 : List AV) (b4 b5 : AV) : AC := .op (.store 2 b5 b4) fun b6 => .op (.load 2 true b5) fun b7 => .call (.fn (.func 156) [] []) [(nth v0 0), b7] fun b8 => .ret .normal []
def a160x1 (v0 : List AV) (v2 : AV) (b1 : List AV) : AC := .bind (.op (.saddr 2 v2 (nth b1 0)) fun b3 => .op (.load 2 true b3) fun b4 => .op (.alloc [(I 0), (I 0)]) fun b5 => (a160x0 v0 b4 b5)) (some 1) (fun b3 => .op (.bin .add (nth b1 0) (I 1)) fun b4 => .ret .normal [b4]) (fun b3 => [(nth b1 0)])
def a160x2 (v0 : List AV) (v2 b0 : AV) : AC := .loop [(I 0)] (fun b1 => .op (.bin .lss (nth b1 0) b0) fun b2 => .ite b2 (a160x1 v0 v2 b1) (.ret (.exit 0) [(nth b1 0)])) (fun b1 => [(nth b1 0)])
def a160x3 (v0 : List AV) (v2 : AV) : AC := .op (.nilchk (nth v0 0)) fun v7 => .op (.faddr 0 v7) fun v8 => .op (.store 1 v8 (nth v0 1)) fun v9 => .op (.len false v2) fun b0 => .bind (a160x2 v0 v2 b0) (some 0) (fun b1 => .ret .ret []) (fun b1 => [])
def a160 : List AV → AC := fun v0 => .call (.fn (.func 155) [] []) [(nth v0 0)] fun v1 => .call (.fn (.func 250) [] []) [v1] fun v2 => .op (.build (List.replicate 176 Ns) []) fun v3 => .op (.nilchk (nth v0 0)) fun v4 => .op (.faddr 2 v4) fun v5 => .op (.store 176 v5 v3) fun v6 => (a160x3 v0 v2)
theorem e160 : denFn prog f160 [20] = a160 := by kernel_rfl
def a161x0 (v0 v1 : List AV) : AC := zc 173 [(nth v0 0), (nth v1 1), (nth v1 0), (nth v0 2)] fun v3 => zb .add (nth v1 0) (I 20) fun v4 => zm [v4, (nth v1 0)]
def a161x1 (v0 v1 : List AV) : AC := zb .leq (nth v1 0) (nth v0 1) fun v2 => .ite v2 (.bind (a161x0 v0 v1) (some 1) (fun v3 => zm [(nth v3 0), (nth v3 1)]) (fun v3 => [(nth v3 0), (nth v3 1)])) (.ret (.exit 0) [(nth v1 0), (nth v1 1)])
def a161x2 (v6 : List AV) (b0 : AV) : AC := zb .add (nth v6 0) b0 fun b1 => zm [b1, (nth v6 0)]
def a161x3 (v0 v3 v6 : List AV) : AC := .bind (zb .add (nth v6 1) (nth v3 0) fun v8 => zc 251 [(nth v0 0), (nth v6 1), v8, (nth v6 0), (nth v0 2)] fun v9 => zb .mul (I 2) (nth v3 0) fun b0 => (a161x2 v6 b0)) (some 5) (fun v8 => zm [(nth v8 0), (nth v8 1)]) (fun v8 => [(nth v8 0), (nth v8 1)])
def a161x4 (v0 v3 : List AV) (v5 : AV) : AC := .loop [v5, (I 0)] (fun v6 => zb .leq (nth v6 0) (nth v0 1) fun v7 => .ite v7 (a161x3 v0 v3 v6) (.ret (.exit 4) [(nth v6 0), (nth v6 1)])) (fun v6 => [(nth v6 0), (nth v6 1)])
def a161x5 (v0 v6 : List AV) (v7 : AV) : AC := zc 251 [(nth v0 0), (nth v6 1), v7, (nth v0 1), (nth v0 2)] fun v9 => zm []
def a161x6 (v0 v3 v6 : List AV) : AC := zb .add (nth v6 1) (nth v3 0) fun v7 => zb .lss v7 (nth v0 1) fun v8 => .bind (.ite v8 (a161x5 v0 v6 v7) (zm [])) none (fun v9 => zb .mul (nth v3 0) (I 2) fun b0 => zm [b0, (nth v6 0), (nth v6 1)]) (fun v9 => [(nth v3 0), (nth v6 0), (nth v6 1)])
def a161x7 (v0 v3 : List AV) : AC := .bind (zb .mul (I 2) (nth v3 0) fun v5 => .bind (a161x4 v0 v3 v5) (some 4) (fun v6 => (a161x6 v0 v3 v6)) (fun v6 => [(nth v3 0), (nth v6 0), (nth v6 1)])) (some 3) (fun v5 => zm [(nth v5 0), (nth v5 1), (nth v5 2)]) (fun v5 => [(nth v5 0), (nth v5 1), (nth v5 2)])
def a161x8 (v0 v1 : List AV) : AC := .loop [(I 20), (nth v1 0), (nth v1 1)] (fun v3 => zb .lss (nth v3 0) (nth v0 1) fun v4 => .ite v4 (a161x7 v0 v3) (.ret (.exit 2) [(nth v3 0), (nth v3 1), (nth v3 2)])) (fun v3 => [(nth v3 0), (nth v3 1), (nth v3 2)])
def a161 : List AV → AC := fun v0 => .bind (.loop [(I 20), (I 0)] (fun v1 => (a161x1 v0 v1)) (fun v1 => [(nth v1 0), (nth v1 1)])) (some 0) (fun v1 => zc 173 [(nth v0 0), (nth v1 1), (nth v0 1), (nth v0 2)] fun v2 => .bind (a161x8 v0 v1) (some 2) (fun v3 => zr []) (fun v3 => [])) (fun v1 => [])
theorem e161 : denFn prog f161 [7, 8, 6] = a161 := by kernel_rfl
def a162x0 (v1 v2 v5 v8 b5 b8 bb : AV) : AC := zf 5 v1 fun bc => zl bc fun bd => .op (.build [(.sc (.string ⟨#[]⟩)), (I 0), (I 0), (I 0)] [(0, 1, (.sc (.string ⟨#[108, 105, 109, 105, 116]⟩))), (1, 1, bd), (2, 1, (I 1)), (3, 1, (I 4294967295))]) fun be => .op (.build [(.sc (.string ⟨#[]⟩)), (I 0), (I 0), (I 0), (.sc (.string ⟨#[]⟩)), (I 0), (I 0), (I 0), (.sc (.string ⟨#[]⟩)), (I 0), (I 0), (I 0), (.sc (.string ⟨#[]⟩)), (I 0), (I 0), (I 0), (.sc (.string ⟨#[]⟩)), (I 0), (I 0), (I 0), (.sc (.string ⟨#[]⟩)), (I 0), (I 0), (I 0)] [(0, 4, v5), (4, 4, v8), (8, 4, b5), (12, 4, b8), (16, 4, bb), (20, 4, be)]) fun bf => .op (.store 24 v2 bf) fun bg => zr [v2]
def a162x1 (v1 v2 v5 v8 b5 : AV) : AC := zf 3 v1 fun b6 => zl b6 fun b7 => .op (.build [(.sc (.string ⟨#[]⟩)), (I 0), (I 0), (I 0)] [(0, 1, (.sc (.string ⟨#[104, 101, 105, 103, 104, 116]⟩))), (1, 1, b7), (2, 1, (I 1)), (3, 1, (I 4))]) fun b8 => zf 4 v1 fun b9 => zl b9 fun ba => .op (.build [(.sc (.string ⟨#[]⟩)), (I 0), (I 0), (I 0)] [(0, 1, (.sc (.string ⟨#[114, 111, 111, 109]⟩))), (1, 1, ba), (2, 1, (I 1)), (3, 1, (I 16))]) fun bb => (a162x0 v1 v2 v5 v8 b5 b8 bb)
def a162x2 (v1 v2 v5 v8 v9 : AV) : AC := zl v9 fun b0 => zf 1 v1 fun b1 => zl b1 fun b2 => .op (.minmax false [b2, (I 64)]) fun b3 => zb .add b3 (I 1) fun b4 => .op (.build [(.sc (.string ⟨#[]⟩)), (I 0), (I 0), (I 0)] [(0, 1, (.sc (.string ⟨#[110, 111, 100, 101, 115]⟩))), (1, 1, b0), (2, 1, b4), (3, 1, (I 128))]) fun b5 => (a162x1 v1 v2 v5 v8 b5)
def a162x3 (v1 v2 v3 : AV) : AC := zl v3 fun v4 => .op (.build [(.sc (.string ⟨#[]⟩)), (I 0), (I 0), (I 0)] [(0, 1, (.sc (.string ⟨#[99, 111, 114, 101, 115]⟩))), (1, 1, v4), (2, 1, (I 1)), (3, 1, (I 64))]) fun v5 => zf 1 v1 fun v6 => zl v6 fun v7 => .op (.build [(.sc (.string ⟨#[]⟩)), (I 0), (I 0), (I 0)] [(0, 1, (.sc (.string ⟨#[106, 111, 98, 115]⟩))), (1, 1, v7), (2, 1, (I 1)), (3, 1, (I 64))]) fun v8 => zf 2 v1 fun v9 => (a162x2 v1 v2 v5 v8 v9)
def a162 : List AV → AC := fun v0 => .fin (.op (.box (nth v0 0)) fun v1 => .op (.alloc [(.sc (.string ⟨#[]⟩)), (I 0), (I 0), (I 0), (.sc (.string ⟨#[]⟩)), (I 0), (I 0), (I 0), (.sc (.string ⟨#[]⟩)), (I 0), (I 0), (I 0), (.sc (.string ⟨#[]⟩)), (I 0), (I 0), (I 0), (.sc (.string ⟨#[]⟩)), (I 0), (I 0), (I 0), (.sc (.string ⟨#[]⟩)), (I 0), (I 0), (I 0)]) fun v2 => zf 0 v1 fun v3 => (a162x3 v1 v2 v3)) fun v1 => .op (.load 24 true (nth v1 0)) fun v2 => zr [v2]
theorem e162 : denFn prog f162 [] = a162 := by kernel_rfl
def a163x0 (v0 : List AV) (v1 : AV) (v8 : List AV) : AC := .op (.load 10 true v1) fun b0 => zc 254 [(nth v8 0), b0] fun b1 => .op (.part 0 1 false b1) fun b2 => zc 116 [(nth v0 1), b2, (U 0)] fun b3 => zm []
def a163x1 (v8 : List AV) : AC := zb .add (nth v8 0) (I 1) fun b1 => zm [b1]
def a163x2 (v0 : List AV) (v1 : AV) (v8 : List AV) : AC := zb .lss (nth v8 0) (I 3) fun v9 => .ite v9 (.bind (a163x0 v0 v1 v8) (some 1) (fun b0 => (a163x1 v8)) (fun b0 => [(nth v8 0)])) (.ret (.exit 0) [(nth v8 0)])
def a163x3 (v0 : List AV) (v1 v6 : AV) : AC := zc 253 [v6, (nth v0 1)] fun v7 => .bind (.loop [(I 0)] (fun v8 => (a163x2 v0 v1 v8)) (fun v8 => [(nth v8 0)])) (some 0) (fun v8 => zr []) (fun v8 => [])
def a163 : List AV → AC := fun v0 => .op (.box (nth v0 0)) fun v1 => zf 0 v1 fun v2 => .op (.load 6 true v2) fun v3 => zc 252 [v3, (nth v0 1)] fun v4 => zf 6 v1 fun v5 => .op (.load 3 true v5) fun v6 => (a163x3 v0 v1 v6)
theorem e163 : denFn prog f163 [13] = a163 := by kernel_rfl
def a164x0 (v4 v6 : AV) : AC := zt v4 (.bin .leq v6 (I 32)) fun v7 => zi v4 v7 (B false) fun v8 => zr [v8]
def a164 : List AV → AC := fun v0 => .op (.box (nth v0 0)) fun v1 => zf 1 v1 fun v2 => zl v2 fun v3 => zb .geq v3 (I 1) fun v4 => zt v4 (.faddr 1 v1) fun v5 => zt v4 (.load 1 false v5) fun v6 => (a164x0 v4 v6)
theorem e164 : denFn prog f164 [] = a164 := by kernel_rfl
def a165 : List AV → AC := fun v0 => .op (.box (nth v0 0)) fun v1 => zr [(.fn (.func 255) [] [v1])]
theorem e165 : denFn prog f165 [] = a165 := by kernel_rfl
def a166x0 (b3 b6 : AV) : AC := .ite b6 (zm [(I (-1))]) (zm [b3])
def a166x1 (v0 : List AV) (v1 : AV) (b1 b7 : List AV) : AC := zf 1 v1 fun b8 => zl b8 fun b9 => zb .add b9 (nth b1 0) fun ba => zc 257 [(nth b7 0)] fun bb => .chk (.load 1 false b8) b9 (zc 116 [(nth v0 1), ba, bb] fun bc => zm [(nth b7 0)])
def a166x2 (v0 : List AV) (v1 : AV) (b1 : List AV) : AC := zb .add (nth b1 0) (I 1) fun b3 => zf 2 v1 fun b4 => zl b4 fun b5 => zb .eql b3 b5 fun b6 => .bind (a166x0 b3 b6) none (fun b7 => (a166x1 v0 v1 b1 b7)) (fun b7 => [(nth b7 0)])
def a166x3 (b1 b3 : List AV) : AC := zb .add (nth b1 0) (I 1) fun b4 => zm [b4, (nth b3 0)]
def a166x4 (v0 : List AV) (v1 b0 : AV) (b1 : List AV) : AC := zb .lss (nth b1 0) b0 fun b2 => .ite b2 (.bind (a166x2 v0 v1 b1) (some 1) (fun b3 => (a166x3 b1 b3)) (fun b3 => [(nth b1 0), (nth b3 0)])) (.ret (.exit 0) [(nth b1 0), (nth b1 1)])
def a166x5 (v0 : List AV) (v1 v9 : AV) : AC := zl v9 fun b0 => .bind (.loop [(I 0), .no] (fun b1 => (a166x4 v0 v1 b0 b1)) (fun b1 => [(nth b1 0), (nth b1 1)])) (some 0) (fun b1 => zr []) (fun b1 => [])
def a166x6 (v0 : List AV) (v1 : AV) : AC := zf 0 v1 fun v5 => zl v5 fun v6 => zc 257 [(I 0)] fun v7 => .chk (.load 1 false v5) v6 (zc 116 [(nth v0 1), v6, v7] fun v8 => zf 2 v1 fun v9 => (a166x5 v0 v1 v9))
def a166 : List AV → AC := fun v0 => .op (.box (nth v0 0)) fun v1 => .op (.load 3 true v1) fun v2 => zc 256 [v2] fun v3 => .op (.un .not v3) fun v4 => .ite v4 (zr []) (a166x6 v0 v1)
theorem e166 : denFn prog f166 [16, 5] = a166 := by kernel_rfl
def a167x0 (v9 b2 : AV) : AC := zb .shl b2 (U 32) fun b3 => zb .or v9 b3 fun b4 => zr [b4]
def a167x1 (v1 v4 v6 : AV) : AC := .op (.conv .u64 v6) fun v7 => zb .shl v7 (U 8) fun v8 => zb .or v4 v8 fun v9 => zf 2 v1 fun b0 => zl b0 fun b1 => .op (.conv .u64 b1) fun b2 => (a167x0 v9 b2)
def a167 : List AV → AC := fun v0 => .op (.box (nth v0 0)) fun v1 => zf 0 v1 fun v2 => zl v2 fun v3 => .op (.conv .u64 v3) fun v4 => zf 1 v1 fun v5 => zl v5 fun v6 => (a167x1 v1 v4 v6)
theorem e167 : denFn prog f167 [] = a167 := by kernel_rfl
def a168x0 (v0 : List AV) (v1 : AV) (b3 : List AV) : AC := zf 2 v1 fun b5 => zl b5 fun b6 => zb .add b6 (nth b3 0) fun b7 => zc 116 [(nth v0 1), b7, (U 0)] fun b8 => zm []
def a168x1 (b3 : List AV) : AC := zb .add (nth b3 0) (I 1) fun b6 => zm [b6]
def a168x2 (v0 : List AV) (v1 b2 : AV) (b3 : List AV) : AC := zb .lss (nth b3 0) b2 fun b4 => .ite b4 (.bind (a168x0 v0 v1 b3) (some 1) (fun b5 => (a168x1 b3)) (fun b5 => [(nth b3 0)])) (.ret (.exit 0) [(nth b3 0)])
def a168x3 (v0 : List AV) (v1 : AV) : AC := zf 3 v1 fun b1 => zl b1 fun b2 => .bind (.loop [(I 0)] (fun b3 => (a168x2 v0 v1 b2 b3)) (fun b3 => [(nth b3 0)])) (some 0) (fun b3 => zr []) (fun b3 => [])
def a168x4 (v0 : List AV) (v1 : AV) : AC := zf 0 v1 fun v5 => zl v5 fun v6 => zc 116 [(nth v0 1), v6, (U 0)] fun v7 => zf 1 v1 fun v8 => zl v8 fun v9 => zc 116 [(nth v0 1), v9, (U 0)] fun b0 => (a168x3 v0 v1)
def a168 : List AV → AC := fun v0 => .op (.box (nth v0 0)) fun v1 => .op (.load 4 true v1) fun v2 => zc 135 [v2] fun v3 => .op (.un .not v3) fun v4 => .ite v4 (zr []) (a168x4 v0 v1)
theorem e168 : denFn prog f168 [18] = a168 := by kernel_rfl
def a169x0 (v0 : List AV) : AC := zn (nth v0 0) fun b8 => zf 0 b8 fun b9 => zl b9 fun ba => zn ba fun bb => .op (.paddr 4096 1 bb (nth v0 1)) fun bc => zr [bc]
def a169x1 (v0 : List AV) (b0 b1 b2 : AV) : AC := zu b0 (.nilchk b2) fun b3 => zu b0 (.faddr 1 b3) fun b4 => zu b0 (.load 1 false b4) fun b5 => zu b0 (.bin .geq b1 b5) fun b6 => zi b0 (B true) b6 fun b7 => .ite b7 (zr [Np]) (a169x0 v0)
def a169x2 (v0 : List AV) (v1 v6 : AV) : AC := zi v1 (B true) v6 fun v7 => zu v7 (.mv (nth v0 1)) fun v8 => zu v7 (.bin .lss v8 (I 0)) fun v9 => zi v7 (B true) v9 fun b0 => zu b0 (.mv (nth v0 1)) fun b1 => zu b0 (.mv (nth v0 0)) fun b2 => (a169x1 v0 b0 b1 b2)
def a169 : List AV → AC := fun v0 => .op (.eq 85 false (nth v0 0) Np) fun v1 => zu v1 (.mv (nth v0 0)) fun v2 => zu v1 (.nilchk v2) fun v3 => zu v1 (.faddr 0 v3) fun v4 => zu v1 (.load 1 false v4) fun v5 => zu v1 (.eq 127 false v5 Np) fun v6 => (a169x2 v0 v1 v6)
theorem e169 : denFn prog f169 [4] = a169 := by kernel_rfl
def a170x0 (v1 : AV) : AC := .op (.build [(I 0), (I 0), (U 0), (U 0), (B false)] []) fun v9 => .op (.store 5 v1 v9) fun b0 => zr [v1]
def a170x1 (v0 : List AV) (bc bd : AV) : AC := zn (nth v0 0) fun bo => zf 2 bo fun bp => zf 4 bp fun bq => zs bq bd fun br => zn (nth v0 3) fun bs => zs bs bc fun bt => zm []
def a170x2 (v0 : List AV) (bc bd bf bh : AV) : AC := zf 2 bh fun bi => zs bi bf fun bj => zn (nth v0 0) fun bk => zf 2 bk fun bl => zf 3 bl fun bm => zs bm bc fun bn => (a170x1 v0 bc bd)
def a170x3 (v0 : List AV) (bb : AV) : AC := .op (.extract 0 bb) fun bc => .op (.extract 1 bb) fun bd => zn (nth v0 3) fun be => zl be fun bf => zn (nth v0 0) fun bg => zf 2 bg fun bh => (a170x2 v0 bc bd bf bh)
def a170x4 (v1 be : AV) : AC := .op (.store 5 v1 be) fun bf => zr [v1]
def a170x5 (v0 : List AV) (v1 ba : AV) : AC := .bind (.ite ba (.call (nth v0 4) [] fun bb => (a170x3 v0 bb)) (zm [])) none (fun bb => zn (nth v0 0) fun bc => zf 2 bc fun bd => .op (.load 5 true bd) fun be => (a170x4 v1 be)) (fun bb => [v1])
def a170x6 (v0 : List AV) (v1 b2 b4 : AV) : AC := zs b4 b2 fun b5 => .op (.build [(I 0), (I 0), (U 0), (U 0), (B false)] [(0, 1, (nth v0 1)), (1, 1, (nth v0 2))]) fun b6 => zn (nth v0 0) fun b7 => zf 2 b7 fun b8 => .op (.store 5 b8 b6) fun b9 => zc 258 [(nth v0 3)] fun ba => (a170x5 v0 v1 ba)
def a170x7 (v0 : List AV) (v1 : AV) : AC := zn (nth v0 0) fun v9 => zf 7 v9 fun b0 => zl b0 fun b1 => zb .add b1 (I 1) fun b2 => zn (nth v0 0) fun b3 => zf 7 b3 fun b4 => (a170x6 v0 v1 b2 b4)
def a170x8 (v0 : List AV) (v1 v2 v3 : AV) : AC := zu v2 (.nilchk v3) fun v4 => zu v2 (.faddr 0 v4) fun v5 => zu v2 (.load 1 false v5) fun v6 => zu v2 (.eq 127 false v6 Np) fun v7 => zi v2 (B true) v7 fun v8 => .ite v8 (a170x0 v1) (a170x7 v0 v1)
def a170 : List AV → AC := fun v0 => .fin (.op (.alloc [(I 0), (I 0), (U 0), (U 0), (B false)]) fun v1 => .op (.eq 85 false (nth v0 0) Np) fun v2 => zu v2 (.mv (nth v0 0)) fun v3 => (a170x8 v0 v1 v2 v3)) fun v1 => .op (.load 5 true (nth v1 0)) fun v2 => zr [v2]
theorem e170 : denFn prog f170 [] = a170 := by kernel_rfl
def a171 : List AV → AC := fun v0 => .op (.box (nth v0 0)) fun v1 => zf 1 v1 fun v2 => zl v2 fun v3 => zr [v3, (B true)]
theorem e171 : denFn prog f171 [] = a171 := by kernel_rfl
def a172x0 (v0 : List AV) (bi : AV) : AC := .op (.faddr 178 bi) fun bj => .op (.load 1 false bj) fun bk => .op (.mapdel 3 bk (nth v0 1)) fun bl => .ret .ret []
def a172x1 (v0 : List AV) (v7 bc : AV) : AC := .op (.nilchk bc) fun bd => .op (.load 1 false bd) fun be => .call (.fn (.func 259) [] []) [be, (.fn (.func 260) [] [v7])] fun bf => .op (.nilchk bc) fun bg => .op (.store 1 bg bf) fun bh => .op (.nilchk (nth v0 0)) fun bi => (a172x0 v0 bi)
def a172x2 (v0 : List AV) (v7 b3 b6 : AV) : AC := .op (.faddr 1 b3) fun b7 => .op (.load 1 false b7) fun b8 => .op (.nilchk (nth v0 0)) fun b9 => .op (.faddr 2 b9) fun ba => .op (.paddr 11 16 ba b6) fun bb => .op (.paddr 16 1 bb b8) fun bc => (a172x1 v0 v7 bc)
def a172x3 (v0 : List AV) (v7 b0 : AV) : AC := .op (.load 1 false b0) fun b1 => .call (.fn (.func 245) [] []) [(nth v0 0), b1] fun b2 => .op (.alloc [(I 0), (I 0)]) fun b3 => .op (.store 2 b3 b2) fun b4 => .op (.faddr 0 b3) fun b5 => .op (.load 1 false b5) fun b6 => (a172x2 v0 v7 b3 b6)
def a172x4 (v0 : List AV) (v5 v6 : AV) : AC := .op (.alloc [(I 0), (I 0)]) fun v7 => .op (.store 2 v7 v5) fun v8 => .op (.un .not v6) fun v9 => .ite v9 (.ret .ret []) (.op (.faddr 1 v7) fun b0 => (a172x3 v0 v7 b0))
def a172 : List AV → AC := fun v0 => .op (.nilchk (nth v0 0)) fun v1 => .op (.faddr 178 v1) fun v2 => .op (.load 1 false v2) fun v3 => .op (.lookup 3 true (.agg [(I 0), (I 0)]) v3 (nth v0 1)) fun v4 => .op (.extract 0 v4) fun v5 => .op (.extract 1 v4) fun v6 => (a172x4 v0 v5 v6)
theorem e172 : denFn prog f172 [] = a172 := by kernel_rfl
def a173x0 (v0 v4 : List AV) (b9 bc be : AV) : AC := .op (.saddr 4 (nth v0 0) (nth v4 0)) fun bf => .op (.store 4 bf bc) fun bg => .op (.saddr 4 (nth v0 0) b9) fun bh => .op (.store 4 bh be) fun bi => zm []
def a173x1 (v0 v4 : List AV) : AC := zb .sub (nth v4 0) (I 1) fun b9 => zb .sub (nth v4 0) (I 1) fun ba => .op (.saddr 4 (nth v0 0) ba) fun bb => .op (.load 4 true bb) fun bc => .op (.saddr 4 (nth v0 0) (nth v4 0)) fun bd => .op (.load 4 true bd) fun be => (a173x0 v0 v4 b9 bc be)
def a173x2 (v4 : List AV) : AC := zb .sub (nth v4 0) (I 1) fun ba => zm [ba]
def a173x3 (v0 v4 : List AV) (v5 b6 : AV) : AC := zt v5 (.bin .lss b6 (I 0)) fun b7 => zi v5 b7 (B false) fun b8 => .ite b8 (.bind (a173x1 v0 v4) (some 3) (fun b9 => (a173x2 v4)) (fun b9 => [(nth v4 0)])) (.ret (.exit 2) [(nth v4 0)])
def a173x4 (v0 v4 : List AV) (v5 v6 b0 : AV) : AC := zt v5 (.mv (nth v0 0)) fun b1 => zt v5 (.mv (nth v4 0)) fun b2 => zt v5 (.bin .sub b2 (I 1)) fun b3 => zt v5 (.saddr 4 b1 b3) fun b4 => zt v5 (.load 4 true b4) fun b5 => .gcall v5 true v6 [b0, b5] fun b6 => (a173x3 v0 v4 v5 b6)
def a173x5 (v0 v4 : List AV) : AC := zb .gtr (nth v4 0) (nth v0 1) fun v5 => zt v5 (.mv (nth v0 3)) fun v6 => zt v5 (.mv (nth v0 0)) fun v7 => zt v5 (.mv (nth v4 0)) fun v8 => zt v5 (.saddr 4 v7 v8) fun v9 => zt v5 (.load 4 true v9) fun b0 => (a173x4 v0 v4 v5 v6 b0)
def a173x6 (v0 v2 : List AV) : AC := .bind (.loop [(nth v2 0)] (fun v4 => (a173x5 v0 v4)) (fun v4 => [(nth v4 0)])) (some 2) (fun v4 => zm [(nth v4 0)]) (fun v4 => [(nth v4 0)])
def a173x7 (v2 v4 : List AV) : AC := zb .add (nth v2 0) (I 1) fun v5 => zm [v5, (nth v4 0)]
def a173x8 (v0 v2 : List AV) : AC := zb .lss (nth v2 0) (nth v0 2) fun v3 => .ite v3 (.bind (a173x6 v0 v2) (some 1) (fun v4 => (a173x7 v2 v4)) (fun v4 => [(nth v2 0), (nth v4 0)])) (.ret (.exit 0) [(nth v2 0), (nth v2 1)])
def a173 : List AV → AC := fun v0 => zb .add (nth v0 1) (I 1) fun v1 => .bind (.loop [v1, .no] (fun v2 => (a173x8 v0 v2)) (fun v2 => [(nth v2 0), (nth v2 1)])) (some 0) (fun v2 => zr []) (fun v2 => [])
theorem e173 : denFn prog f173 [8, 9] = a173 := by kernel_rfl
def a182x0 (v0 : List AV) : AC := .op (.bin .shr (nth v0 0) (U 32)) fun v2 => .ret .normal [(I 32), v2]
def a182x1 (v2 : List AV) (v3 : AV) : AC := .ite v3 (.op (.bin .shr (nth v2 1) (U 16)) fun v4 => .op (.bin .add (nth v2 0) (I 16)) fun v5 => .ret .normal [v5, v4]) (.ret .normal [(nth v2 0), (nth v2 1)])
def a182x2 (v4 : List AV) : AC := .op (.bin .shr (nth v4 1) (U 8)) fun v6 => .op (.bin .add (nth v4 0) (I 8)) fun v7 => .ret .normal [v7, v6]
def a182x3 (v6 : List AV) (v8 : AV) : AC := .op (.conv .i64 v8) fun v9 => .op (.bin .add (nth v6 0) v9) fun b0 => .ret .ret [b0]
def a182x4 (v4 : List AV) : AC := .op (.bin .geq (nth v4 1) (U 256)) fun v5 => .bind (.ite v5 (a182x2 v4) (.ret .normal [(nth v4 0), (nth v4 1)])) none (fun v6 => .op (.conv .u8 (nth v6 1)) fun v7 => .op (.sidx (.sc (.string ⟨#[0, 1, 2, 2, 3, 3, 3, 3, 4, 4, 4, 4, 4, 4, 4, 4, 5, 5, 5, 5, 5, 5, 5, 5, 5, 5, 5, 5, 5, 5, 5, 5, 6, 6, 6, 6, 6, 6, 6, 6, 6, 6, 6, 6, 6, 6, 6, 6, 6, 6, 6, 6, 6, 6, 6, 6, 6, 6, 6, 6, 6, 6, 6, 6, 7, 7, 7, 7, 7, 7, 7, 7, 7, 7, 7, 7, 7, 7, 7, 7, 7, 7, 7, 7, 7, 7, 7, 7, 7, 7, 7, 7, 7, 7, 7, 7, 7, 7, 7, 7, 7, 7, 7, 7, 7, 7, 7, 7, 7, 7, 7, 7, 7, 7, 7, 7, 7, 7, 7, 7, 7, 7, 7, 7, 7, 7, 7, 7, 8, 8, 8, 8, 8, 8, 8, 8, 8, 8, 8, 8, 8, 8, 8, 8, 8, 8, 8, 8, 8, 8, 8, 8, 8, 8, 8, 8, 8, 8, 8, 8, 8, 8, 8, 8, 8, 8, 8, 8, 8, 8, 8, 8, 8, 8, 8, 8, 8, 8, 8, 8, 8, 8, 8, 8, 8, 8, 8, 8, 8, 8, 8, 8, 8, 8, 8, 8, 8, 8, 8, 8, 8, 8, 8, 8, 8, 8, 8, 8, 8, 8, 8, 8, 8, 8, 8, 8, 8, 8, 8, 8, 8, 8, 8, 8, 8, 8, 8, 8, 8, 8, 8, 8, 8, 8, 8, 8, 8, 8, 8, 8, 8, 8, 8, 8, 8, 8, 8, 8, 8, 8, 8, 8, 8, 8, 8, 8]⟩)) v7) fun v8 => (a182x3 v6 v8)) (fun v6 => [(nth v6 0)])
def a182 : List AV → AC := fun v0 => .op (.bin .geq (nth v0 0) (U 4294967296)) fun v1 => .bind (.ite v1 (a182x0 v0) (.ret .normal [(I 0), (nth v0 0)])) none (fun v2 => .op (.bin .geq (nth v2 1) (U 65536)) fun v3 => .bind (a182x1 v2 v3) none (fun v4 => (a182x4 v4)) (fun v4 => [(nth v4 0)])) (fun v2 => [(nth v2 0)])
theorem e182 : denFn prog f182 [0, 2] = a182 := by kernel_rfl
def a183 : List AV → AC := fun v0 => zb .neq (nth v0 0) (nth v0 0) fun v1 => zr [v1]
theorem e183 : denFn prog f183 [] = a183 := by kernel_rfl
def a184 : List AV → AC := fun v0 => .op (.bin .neq (nth v0 0) (nth v0 0)) fun v1 => .ret .ret [v1]
theorem e184 : denFn prog f184 [] = a184 := by kernel_rfl
def a185x0 (v7 : List AV) : AC := zb .add (nth v7 1) (U 1) fun bc => zm [bc]
def a185x1 (v7 : List AV) (b6 b7 : AV) : AC := zu b6 (.mv (nth v7 1)) fun b8 => .gcall b6 false b7 [b8] fun b9 => zu b6 (.un .not b9) fun ba => zi b6 (B true) ba fun bb => .ite bb (zr [(nth v7 1)]) (a185x0 v7)
def a185x2 (v0 v7 : List AV) (v9 b1 b2 : AV) : AC := .call v9 [b2] fun b3 => .chk (.load 4 true (nth v0 2)) b1 (zc 187 [b1, (nth v7 1)] fun b4 => zc 186 [b3, b4] fun b5 => .op (.un .not b5) fun b6 => zu b6 (.mv (nth v0 0)) fun b7 => (a185x1 v7 b6 b7))
def a185x3 (v0 v7 : List AV) : AC := zl (nth v0 1) fun v9 => .op (.load 4 true (nth v0 2)) fun b0 => .op (.load 4 true (nth v0 2)) fun b1 => zc 138 [b0, (nth v7 1)] fun b2 => .chk (.load 1 false (nth v0 1)) v9 (.chk (.load 4 true (nth v0 2)) b1 (a185x2 v0 v7 v9 b1 b2))
def a185x4 (v7 v9 : List AV) : AC := zb .add (nth v7 0) (I 1) fun b0 => zm [b0, (nth v9 0)]
def a185x5 (v0 : List AV) (v6 : AV) (v7 : List AV) : AC := zb .lss (nth v7 0) v6 fun v8 => .ite v8 (.bind (a185x3 v0 v7) (some 1) (fun v9 => (a185x4 v7 v9)) (fun v9 => [(nth v7 0), (nth v9 0)])) (.ret (.exit 0) [(nth v7 0), (nth v7 1)])
def a185x6 (v0 : List AV) (v4 v6 : AV) : AC := .bind (.loop [(I 0), v4] (fun v7 => (a185x5 v0 v6 v7)) (fun v7 => [(nth v7 0), (nth v7 1)])) (some 0) (fun v7 => zr []) (fun v7 => [])
def a185 : List AV → AC := fun v0 => zl (nth v0 1) fun v1 => zf 0 (nth v0 2) fun v2 => zl v2 fun v3 => .call v1 [v3] fun v4 => zf 3 (nth v0 2) fun v5 => zl v5 fun v6 => (a185x6 v0 v4 v6)
theorem e185 : denFn prog f185 [4, 11] = a185 := by kernel_rfl
def a186x0 (v3 v6 : AV) : AC := zi v3 v6 (B false) fun v7 => zr [v7]
def a186 : List AV → AC := fun v0 => zb .shr (nth v0 0) (U 32) fun v1 => .op (.conv .u32 v1) fun v2 => zb .eql v2 (nth v0 1) fun v3 => zt v3 (.mv (nth v0 0)) fun v4 => zt v3 (.bin .and v4 (U 65536)) fun v5 => zt v3 (.bin .neq v5 (U 0)) fun v6 => (a186x0 v3 v6)
theorem e186 : denFn prog f186 [] = a186 := by kernel_rfl
def a187 : List AV → AC := fun v0 => .op (.box (nth v0 0)) fun v1 => zf 3 v1 fun v2 => zl v2 fun v3 => .op (.conv .u64 v3) fun v4 => zb .quo (nth v0 1) v4 fun v5 => .op (.conv .u32 v5) fun v6 => zr [v6]
theorem e187 : denFn prog f187 [] = a187 := by kernel_rfl
def a188x0 (v9 b0 b4 : AV) : AC := zu v9 (.load 1 false b4) fun b5 => zu v9 (.len false b5) fun b6 => zu v9 (.bin .geq b0 b6) fun b7 => zi v9 (B true) b7 fun b8 => .ite b8 (zr [(I 3)]) (zm [(I 0)])
def a188x1 (v0 : List AV) : AC := zb .lss (nth v0 1) (I 0) fun v9 => zu v9 (.mv (nth v0 1)) fun b0 => zu v9 (.mv (nth v0 0)) fun b1 => zu v9 (.nilchk b1) fun b2 => zu v9 (.faddr 0 b2) fun b3 => zu v9 (.faddr 0 b3) fun b4 => (a188x0 v9 b0 b4)
def a188x2 (v0 : List AV) (v1 v3 : AV) : AC := zu v1 (.faddr 0 v3) fun v4 => zu v1 (.faddr 0 v4) fun v5 => zu v1 (.load 1 false v5) fun v6 => zu v1 (.eq 176 false v6 Ns) fun v7 => zi v1 (B true) v7 fun v8 => .ite v8 (zr [(I 1)]) (a188x1 v0)
def a188 : List AV → AC := fun v0 => .bind (.op (.eq 87 false (nth v0 0) Np) fun v1 => zu v1 (.mv (nth v0 0)) fun v2 => zu v1 (.nilchk v2) fun v3 => (a188x2 v0 v1 v3)) (some 0) (fun v1 => zr [(I 0)]) (fun v1 => [(nth v1 0)])
theorem e188 : denFn prog f188 [4] = a188 := by kernel_rfl
def a189x0 (v0 : List AV) (b0 : AV) : AC := zf 0 b0 fun b1 => zl b1 fun b2 => .op (.saddr 1 b2 (nth v0 1)) fun b3 => zl b3 fun b4 => zr [b4]
def a189x1 (v0 : List AV) (v1 v2 v6 : AV) : AC := zu v1 (.len false v6) fun v7 => zu v1 (.bin .geq v2 v7) fun v8 => zi v1 (B true) v8 fun v9 => .ite v9 (zr [Np]) (zn (nth v0 0) fun b0 => (a189x0 v0 b0))
def a189 : List AV → AC := fun v0 => zb .lss (nth v0 1) (I 0) fun v1 => zu v1 (.mv (nth v0 1)) fun v2 => zu v1 (.mv (nth v0 0)) fun v3 => zu v1 (.nilchk v3) fun v4 => zu v1 (.faddr 0 v4) fun v5 => zu v1 (.load 1 false v5) fun v6 => (a189x1 v0 v1 v2 v6)
theorem e189 : denFn prog f189 [4] = a189 := by kernel_rfl
def a190x0 (b9 be : AV) : AC := zi b9 be (B false) fun bf => zr []
def a190x1 (v0 : List AV) (b3 b8 : AV) : AC := zi b3 b8 (B false) fun b9 => zt b9 (.mv (nth v0 0)) fun ba => zt b9 (.mv (.fn (.func 211) [] [(nth v0 1), (nth v0 2)])) fun bb => zt b9 (.mv (.fn (.func 214) [] [(nth v0 1)])) fun bc => .gcall b9 true (zF 210) [bb, bc] fun bd => .gcall b9 true ba [bd] fun be => (a190x0 b9 be)
def a190x2 (v0 : List AV) (v8 b2 : AV) : AC := zi v8 b2 (B false) fun b3 => zt b3 (.mv (nth v0 0)) fun b4 => zt b3 (.load 1 false (nth v0 1)) fun b5 => zt b3 (.mv (.fn (.func 209) [] [(nth v0 1)])) fun b6 => .gcall b3 true (zF 208) [b5, b6] fun b7 => .gcall b3 true b4 [b7] fun b8 => (a190x1 v0 b3 b8)
def a190x3 (v0 : List AV) (v2 v3 v6 : AV) : AC := .gcall v2 true v3 [v6] fun v7 => zi v2 v7 (B false) fun v8 => zt v8 (.mv (nth v0 0)) fun v9 => zt v8 (.mv (.fn (.func 204) [] [(nth v0 1), (nth v0 3)])) fun b0 => .gcall v8 true (zF 203) [b0] fun b1 => .gcall v8 true v9 [b1] fun b2 => (a190x2 v0 v8 b2)
def a190 : List AV → AC := fun v0 => zc 191 [(.fn (.func 192) [] [(nth v0 1), (nth v0 2), (nth v0 3), (nth v0 4)]), (.fn (.func 194) [] [(nth v0 1)])] fun v1 => .call (nth v0 0) [v1] fun v2 => zt v2 (.mv (nth v0 0)) fun v3 => zt v2 (.mv (.fn (.func 198) [] [(nth v0 1)])) fun v4 => zt v2 (.mv (.fn (.func 200) [] [(nth v0 1)])) fun v5 => .gcall v2 true (zF 197) [v4, v5] fun v6 => (a190x3 v0 v2 v3 v6)
theorem e190 : denFn prog f190 [] = a190 := by kernel_rfl
def a191 : List AV → AC := fun v0 => .op (.box (nth v0 0)) fun v1 => .op (.box (nth v0 1)) fun v2 => .op (.alloc [Np]) fun v3 => .op (.alloc [(B false)]) fun v4 => zs v4 (B false) fun v5 => zr [(.fn (.func 266) [] [v4, v1, v3, v2])]
theorem e191 : denFn prog f191 [] = a191 := by kernel_rfl
def a192x0 (v0 : List AV) (v5 v6 : AV) : AC := zf 2 (nth v0 2) fun v7 => zl v7 fun v8 => zl (nth v0 3) fun v9 => zc 193 [v5, v6, v8, v9] fun b0 => zr [b0]
def a192 : List AV → AC := fun v0 => zl (nth v0 0) fun v1 => zn v1 fun v2 => zf 0 v2 fun v3 => zf 13 v3 fun v4 => .op (.load 2 true v4) fun v5 => zl (nth v0 1) fun v6 => (a192x0 v0 v5 v6)
theorem e192 : denFn prog f192 [] = a192 := by kernel_rfl
def a193x0 (v3 bc : AV) : AC := zf 6 bc fun bd => zs bd (I 3) fun be => zr [v3]
def a193x1 (v3 bg bo : AV) : AC := zs bo bg fun bp => zn v3 fun bq => zf 5 bq fun br => .op (.store 1 br (.fn (.func 267) [v3] [])) fun bs => zr [v3]
def a193x2 (v3 be bf bg bi : AV) : AC := zs bi be fun bj => zn v3 fun bk => zf 2 bk fun bl => zs bl bf fun bm => zn v3 fun bn => zf 3 bn fun bo => (a193x1 v3 bg bo)
def a193x3 (v0 : List AV) (v3 bc : AV) : AC := zl bc fun bd => zb .add bd (nth v0 1) fun be => .op (.conv .u64 (nth v0 2)) fun bf => .op (.conv .u64 (nth v0 3)) fun bg => zn v3 fun bh => zf 1 bh fun bi => (a193x2 v3 be bf bg bi)
def a193x4 (v0 : List AV) (v1 v3 b8 : AV) : AC := zu b8 (.mv (nth v0 3)) fun b9 => zu b8 (.bin .gtr b9 (I 1099511627776)) fun ba => zi b8 (B true) ba fun bb => .ite bb (zn v3 fun bc => (a193x0 v3 bc)) (zf 0 v1 fun bc => (a193x3 v0 v3 bc))
def a193x5 (v0 : List AV) (v1 v3 b2 : AV) : AC := zu b2 (.mv (nth v0 2)) fun b3 => zu b2 (.bin .gtr b3 (I 1099511627776)) fun b4 => zi b2 (B true) b4 fun b5 => zu b5 (.mv (nth v0 3)) fun b6 => zu b5 (.bin .lss b6 (I 0)) fun b7 => zi b5 (B true) b7 fun b8 => (a193x4 v0 v1 v3 b8)
def a193x6 (v0 : List AV) (v1 v3 v4 v5 v6 : AV) : AC := zu v4 (.load 1 false v6) fun v7 => zu v4 (.bin .geq v5 v7) fun v8 => zi v4 (B true) v8 fun v9 => zu v9 (.mv (nth v0 2)) fun b0 => zu v9 (.bin .lss b0 (I 0)) fun b1 => zi v9 (B true) b1 fun b2 => (a193x5 v0 v1 v3 b2)
def a193 : List AV → AC := fun v0 => .op (.box (nth v0 0)) fun v1 => .op (.build [(B false), (I 0), (U 0), (U 0), (U 0), Nf, (I 0)] [(0, 1, (B true))]) fun v2 => .op (.box v2) fun v3 => zb .lss (nth v0 1) (I 0) fun v4 => zu v4 (.mv (nth v0 1)) fun v5 => zu v4 (.faddr 1 v1) fun v6 => (a193x6 v0 v1 v3 v4 v5 v6)
theorem e193 : denFn prog f193 [8] = a193 := by kernel_rfl
def a194x0 (v0 : List AV) (v1 : AV) : AC := zl (nth v0 1) fun v3 => zc 196 [v3, v1] fun v4 => zm []
def a194 : List AV → AC := fun v0 => zc 195 [(nth v0 0)] fun v1 => zb .neq v1 (I 0) fun v2 => .bind (.ite v2 (a194x0 v0 v1) (zm [])) none (fun v3 => zr []) (fun v3 => [])
theorem e194 : denFn prog f194 [] = a194 := by kernel_rfl
def a195x0 (v0 : List AV) : AC := zn (nth v0 0) fun v8 => zf 5 v8 fun v9 => zl v9 fun b0 => .op (.eq 335 true b0 Nf) fun b1 => .ite b1 (zr [(I 14)]) (zm [(I 0)])
def a195x1 (v0 : List AV) (v1 v3 : AV) : AC := zu v1 (.faddr 0 v3) fun v4 => zu v1 (.load 1 false v4) fun v5 => zu v1 (.un .not v5) fun v6 => zi v1 (B true) v6 fun v7 => .ite v7 (zr [(I 1)]) (a195x0 v0)
def a195 : List AV → AC := fun v0 => .bind (.op (.eq 316 false (nth v0 0) Np) fun v1 => zu v1 (.mv (nth v0 0)) fun v2 => zu v1 (.nilchk v2) fun v3 => (a195x1 v0 v1 v3)) (some 0) (fun v1 => zn (nth v0 0) fun v2 => zf 6 v2 fun v3 => zl v3 fun v4 => zr [v4]) (fun v1 => [(nth v1 0)])
theorem e195 : denFn prog f195 [2] = a195 := by kernel_rfl
def a196 : List AV → AC := fun v0 => zn (nth v0 0) fun v1 => zf 38 v1 fun v2 => zs v2 (nth v0 1) fun v3 => zn (nth v0 0) fun v4 => zf 31 v4 fun v5 => zs v5 Ns fun v6 => zr []
theorem e196 : denFn prog f196 [] = a196 := by kernel_rfl
def a197 : List AV → AC := fun v0 => .op (.box (nth v0 0)) fun v1 => .op (.box (nth v0 1)) fun v2 => .op (.alloc [Np]) fun v3 => .op (.alloc [(B false)]) fun v4 => zs v4 (B false) fun v5 => zr [(.fn (.func 268) [] [v4, v1, v3, v2])]
theorem e197 : denFn prog f197 [] = a197 := by kernel_rfl
def a198 : List AV → AC := fun v0 => zl (nth v0 0) fun v1 => zn v1 fun v2 => zf 0 v2 fun v3 => zf 15 v3 fun v4 => .op (.load 5 true v4) fun v5 => zc 199 [v5] fun v6 => zr [v6]
theorem e198 : denFn prog f198 [] = a198 := by kernel_rfl
def a199x0 (v8 b1 : AV) : AC := .op (.store 1 b1 (.fn (.func 270) [v8] [])) fun b2 => zr [v8]
def a199x1 (v1 v2 v3 v6 : AV) : AC := .chk (.load 5 true v1) v2 (.op (.build [(I 0), (I 0), (I 0), (I 0), (I 0), (I 0), (U 0), Nf, Nf, (B false), (I 0), Np] [(0, 11, v3), (11, 1, v6)]) fun v7 => .op (.box v7) fun v8 => zn v8 fun v9 => zf 0 v9 fun b0 => zf 7 b0 fun b1 => (a199x0 v8 b1))
def a199 : List AV → AC := fun v0 => .op (.box (nth v0 0)) fun v1 => .op (.load 5 true v1) fun v2 => .op (.build [(I 0), (I 0), (I 0), (I 0), (I 0), (I 0), (U 0), Nf, Nf, (B false), (I 0)] [(0, 5, v2), (9, 1, (B true))]) fun v3 => zf 2 v1 fun v4 => .op (.load 3 true v4) fun v5 => zc 269 [v5] fun v6 => (a199x1 v1 v2 v3 v6)
theorem e199 : denFn prog f199 [] = a199 := by kernel_rfl
def a200x0 (v3 b6 : AV) : AC := zc 196 [b6, v3] fun b7 => zm []
def a200x1 (v0 : List AV) (v3 b5 : AV) : AC := .bind (.ite b5 (zl (nth v0 1) fun b6 => (a200x0 v3 b6)) (zm [])) none (fun b6 => zr []) (fun b6 => [])
def a200x2 (v0 : List AV) (v2 v3 v5 v8 b0 : AV) : AC := zs b0 v2 fun b1 => .chk (.load 1 false (nth v0 1)) v5 (zn v5 fun b2 => zf 32 b2 fun b3 => zs b3 v8 fun b4 => zb .neq v3 (I 0) fun b5 => (a200x1 v0 v3 b5))
def a200x3 (v0 : List AV) (v2 v3 v4 v5 v6 : AV) : AC := zc 202 [v6] fun v7 => .chk (.load 1 false (nth v0 1)) v4 (.chk (.load 1 false (nth v0 1)) v5 (.op (.bslice 1 1 [Nf] [(0, 1, v7)]) fun v8 => zn v4 fun v9 => zf 33 v9 fun b0 => (a200x2 v0 v2 v3 v5 v8 b0)))
def a200 : List AV → AC := fun v0 => zc 201 [(nth v0 0)] fun v1 => .op (.extract 0 v1) fun v2 => .op (.extract 1 v1) fun v3 => zl (nth v0 1) fun v4 => zl (nth v0 1) fun v5 => zl (nth v0 1) fun v6 => (a200x3 v0 v2 v3 v4 v5 v6)
theorem e200 : denFn prog f200 [] = a200 := by kernel_rfl
def a201x0 (v8 : AV) : AC := zl v8 fun v9 => zr [v9, (I 0)]
def a201x1 (v0 : List AV) (v4 : AV) : AC := zb .neq v4 (I 0) fun v5 => .ite v5 (zr [(I 0), v4]) (zn (nth v0 0) fun v6 => zf 0 v6 fun v7 => zf 5 v7 fun v8 => (a201x0 v8))
def a201 : List AV → AC := fun v0 => .op (.eq 322 false (nth v0 0) Np) fun v1 => .ite v1 (zr [(I 0), (I 1)]) (zn (nth v0 0) fun v2 => zf 0 v2 fun v3 => zc 271 [v3] fun v4 => (a201x1 v0 v4))
theorem e201 : denFn prog f201 [2, 3] = a201 := by kernel_rfl
def a202 : List AV → AC := fun v0 => .op (.box (nth v0 0)) fun v1 => zc 272 [(.fn (.func 273) [] [v1]), Nf] fun v2 => zr [v2]
theorem e202 : denFn prog f202 [] = a202 := by kernel_rfl
def a203 : List AV → AC := fun v0 => .op (.box (nth v0 0)) fun v1 => zr [(.fn (.func 275) [] [v1])]
theorem e203 : denFn prog f203 [] = a203 := by kernel_rfl
def a204x0 (v0 : List AV) : AC := zl (nth v0 1) fun b1 => zc 206 [b1, (I 12)] fun b2 => zr []
def a204x1 (v0 : List AV) (b1 b6 : AV) : AC := .chk (.load 1 false (nth v0 1)) b1 (.op (.extract 0 b6) fun b7 => .op (.extract 1 b6) fun b8 => zn b1 fun b9 => zf 34 b9 fun ba => zs ba b7 fun bb => zr [])
def a204x2 (v0 : List AV) (v6 : AV) : AC := zl (nth v0 1) fun b1 => zf 1 (nth v0 2) fun b2 => zl b2 fun b3 => .op (.conv .i64 v6) fun b4 => .op (.build [(I 0), (I 0), (I 0)] [(0, 1, b3), (1, 1, b4)]) fun b5 => zc 207 [b5] fun b6 => (a204x1 v0 b1 b6)
def a204x3 (v0 : List AV) (v6 : AV) : AC := zb .lss v6 (U 1) fun v7 => zu v7 (.mv v6) fun v8 => zu v7 (.bin .gtr v8 (U 1099511627775)) fun v9 => zi v7 (B true) v9 fun b0 => .ite b0 (a204x0 v0) (a204x2 v0 v6)
def a204 : List AV → AC := fun v0 => zl (nth v0 1) fun v1 => zn v1 fun v2 => zf 0 v2 fun v3 => zf 27 v3 fun v4 => zl v4 fun v5 => zc 205 [(nth v0 0), v5, (U 1)] fun v6 => (a204x3 v0 v6)
theorem e204 : denFn prog f204 [] = a204 := by kernel_rfl
def a205x0 (v0 : List AV) (v3 v6 : AV) : AC := .op (.load 3 true v3) fun v7 => zc 170 [(nth v0 0), (I 4), (nth v0 1), v6, (.fn (.func 276) [v7] [])] fun v8 => .op (.part 3 1 false v8) fun v9 => zr [v9]
def a205 : List AV → AC := fun v0 => zc 169 [(nth v0 0), (nth v0 1)] fun v1 => .op (.build [Np, (U 0), (U 0)] [(0, 1, v1), (1, 1, (nth v0 2))]) fun v2 => .op (.alloc [Np, (U 0), (U 0)]) fun v3 => .op (.store 3 v3 v2) fun v4 => zf 0 v3 fun v5 => zl v5 fun v6 => (a205x0 v0 v3 v6)
theorem e205 : denFn prog f205 [] = a205 := by kernel_rfl
def a207x0 (b7 b9 bb bc : AV) : AC := zl bc fun bd => .op (.bslice 1 3 [(I 0)] [(0, 1, b9), (1, 1, bb), (2, 1, bd)]) fun be => zc 279 [b7, be] fun bf => zr [bf, (I 0)]
def a207x1 (v1 b5 : AV) : AC := .op (.aslice 3 2 b5 none none none) fun b7 => zf 2 v1 fun b8 => zl b8 fun b9 => zf 1 v1 fun ba => zl ba fun bb => zf 0 v1 fun bc => (a207x0 b7 b9 bb bc)
def a207x2 (v1 b2 : AV) : AC := .op (.un .not b2) fun b3 => .ite b3 (zr [(U 0), (I 3)]) (zc 278 [] fun b4 => .op (.alloc [(I 0), (I 0), (I 0), (I 0), (I 0), (I 0)]) fun b5 => .op (.store 6 b5 b4) fun b6 => (a207x1 v1 b5))
def a207x3 (v1 v4 v6 : AV) : AC := .op (.build [(I 0), (I 0), (I 0)] [(0, 1, v6), (1, 1, (I 0)), (2, 1, (I 1099511627775))]) fun v7 => zf 0 v1 fun v8 => zl v8 fun v9 => .op (.build [(I 0), (I 0), (I 0)] [(0, 1, v9), (1, 1, (I 0)), (2, 1, (I 254))]) fun b0 => .op (.bslice 3 3 [(I 0), (I 0), (I 0)] [(0, 3, v4), (3, 3, v7), (6, 3, b0)]) fun b1 => zc 277 [b1] fun b2 => (a207x2 v1 b2)
def a207 : List AV → AC := fun v0 => .op (.box (nth v0 0)) fun v1 => zf 2 v1 fun v2 => zl v2 fun v3 => .op (.build [(I 0), (I 0), (I 0)] [(0, 1, v3), (1, 1, (I 0)), (2, 1, (I 65535))]) fun v4 => zf 1 v1 fun v5 => zl v5 fun v6 => (a207x3 v1 v4 v6)
theorem e207 : denFn prog f207 [2, 3] = a207 := by kernel_rfl
def a208 : List AV → AC := fun v0 => .op (.box (nth v0 0)) fun v1 => .op (.box (nth v0 1)) fun v2 => zc 280 [(.fn (.func 281) [] [v1, v2]), Nf] fun v3 => zr [v3]
theorem e208 : denFn prog f208 [] = a208 := by kernel_rfl
def a209 : List AV → AC := fun v0 => zl (nth v0 0) fun v1 => zn v1 fun v2 => zf 34 v2 fun v3 => zl v3 fun v4 => zr [v4]
theorem e209 : denFn prog f209 [] = a209 := by kernel_rfl
def a210 : List AV → AC := fun v0 => .op (.box (nth v0 0)) fun v1 => .op (.box (nth v0 1)) fun v2 => .op (.alloc [Np]) fun v3 => .op (.alloc [(B false)]) fun v4 => zs v4 (B false) fun v5 => zr [(.fn (.func 283) [] [v4, v1, v3, v2])]
theorem e210 : denFn prog f210 [] = a210 := by kernel_rfl
def a211x0 (v0 : List AV) (v4 v5 b3 b5 b6 b7 : AV) : AC := .chk (.load 3 true v4) v5 (.chk (.load 1 false (nth v0 0)) b3 (.chk (.load 1 false b5) b6 (zc 212 [v5, b7, b6] fun b8 => zr [b8])))
def a211x1 (v0 : List AV) (v1 v4 v5 v6 b2 : AV) : AC := zl (nth v0 0) fun b3 => zn b3 fun b4 => zf 33 b4 fun b5 => zl b5 fun b6 => zc 213 [v6, b2] fun b7 => .chk (.load 1 false (nth v0 0)) v1 (a211x0 v0 v4 v5 b3 b5 b6 b7)
def a211x2 (v0 : List AV) (v1 v4 v5 v6 : AV) : AC := zl (nth v0 0) fun v7 => zn v7 fun v8 => zf 0 v8 fun v9 => zf 20 v9 fun b0 => zf 1 b0 fun b1 => zl b1 fun b2 => (a211x1 v0 v1 v4 v5 v6 b2)
def a211 : List AV → AC := fun v0 => zl (nth v0 0) fun v1 => zn v1 fun v2 => zf 0 v2 fun v3 => zf 20 v3 fun v4 => .op (.load 3 true v4) fun v5 => zl (nth v0 1) fun v6 => (a211x2 v0 v1 v4 v5 v6)
theorem e211 : denFn prog f211 [] = a211 := by kernel_rfl
def a212x0 (v5 b6 : AV) : AC := .ite b6 (zn v5 fun b7 => zf 2 b7 fun b8 => zs b8 (I 3) fun b9 => zm []) (zm [])
def a212x1 (v0 : List AV) (v5 bk : AV) : AC := zc 285 [bk, (nth v0 2)] fun bl => zn v5 fun bm => zf 1 bm fun bn => zs bn bl fun bo => zm []
def a212x2 (v0 : List AV) (v5 bc bj : AV) : AC := .bind (.ite bj (.op (.load 4 true bc) fun bk => (a212x1 v0 v5 bk)) (zm [])) none (fun bk => zr [v5]) (fun bk => [Np])
def a212x3 (v0 : List AV) (v5 bb bc : AV) : AC := zt bb (.mv v5) fun be => zt bb (.nilchk be) fun bf => zt bb (.faddr 2 bf) fun bg => zt bb (.load 1 false bg) fun bh => zt bb (.bin .eql bh (I 0)) fun bi => zi bb bi (B false) fun bj => (a212x2 v0 v5 bc bj)
def a212x4 (v0 : List AV) (v1 v5 : AV) : AC := .op (.load 3 true v1) fun b8 => zc 216 [b8, (nth v0 1)] fun b9 => .op (.extract 0 b9) fun ba => .op (.extract 1 b9) fun bb => .op (.alloc [(I 0), (I 0), (I 0), (I 0)]) fun bc => .op (.store 4 bc ba) fun bd => (a212x3 v0 v5 bb bc)
def a212x5 (v0 : List AV) (v1 v5 v9 b2 : AV) : AC := zu b2 (.mv (nth v0 2)) fun b3 => zu b2 (.bin .gtr b3 (I 65535)) fun b4 => zt v9 (.pick b2 (B true) b4) fun b5 => zi v9 b5 (B false) fun b6 => .bind (a212x0 v5 b6) none (fun b7 => (a212x4 v0 v1 v5)) (fun b7 => [Np])
def a212x6 (v0 : List AV) (v1 v5 v6 : AV) : AC := zf 2 v6 fun v7 => zl v7 fun v8 => zb .eql v8 (I 0) fun v9 => zt v9 (.mv (nth v0 2)) fun b0 => zt v9 (.bin .lss b0 (I 0)) fun b1 => zt v9 (.mv b1) fun b2 => (a212x5 v0 v1 v5 v9 b2)
def a212 : List AV → AC := fun v0 => .op (.box (nth v0 0)) fun v1 => .op (.load 3 true v1) fun v2 => zc 284 [v2, (nth v0 1)] fun v3 => .op (.build [(B false), Np, (I 0)] [(0, 1, (B true)), (2, 1, v3)]) fun v4 => .op (.box v4) fun v5 => zn v5 fun v6 => (a212x6 v0 v1 v5 v6)
theorem e212 : denFn prog f212 [] = a212 := by kernel_rfl
def a213x0 (v0 : List AV) (v4 v6 : AV) : AC := .op (.pick v4 (B true) v6) fun v7 => .ite v7 (.ret .ret [(I (-1))]) (.op (.bin .rem (nth v0 0) (nth v0 1)) fun v8 => .ret .ret [v8])
def a213 : List AV → AC := fun v0 => .op (.bin .lss (nth v0 0) (I 0)) fun v1 => .gop v1 false (.mv (nth v0 1)) fun v2 => .gop v1 false (.bin .lss v2 (I 1)) fun v3 => .op (.pick v1 (B true) v3) fun v4 => .gop v4 false (.mv (nth v0 1)) fun v5 => .gop v4 false (.bin .gtr v5 (I 64)) fun v6 => (a213x0 v0 v4 v6)
theorem e213 : denFn prog f213 [4] = a213 := by kernel_rfl
def a214x0 (v0 : List AV) (v1 : AV) : AC := zl (nth v0 1) fun v3 => zc 206 [v3, v1] fun v4 => zm []
def a214 : List AV → AC := fun v0 => zc 215 [(nth v0 0)] fun v1 => zb .neq v1 (I 0) fun v2 => .bind (.ite v2 (a214x0 v0 v1) (zm [])) none (fun v3 => zr []) (fun v3 => [])
theorem e214 : denFn prog f214 [] = a214 := by kernel_rfl
def a215x0 (v0 : List AV) : AC := zn (nth v0 0) fun v8 => zf 1 v8 fun v9 => zl v9 fun b0 => .op (.eq 409 true b0 Np) fun b1 => .ite b1 (zr [(I 14)]) (zm [(I 0)])
def a215x1 (v0 : List AV) (v1 v3 : AV) : AC := zu v1 (.faddr 0 v3) fun v4 => zu v1 (.load 1 false v4) fun v5 => zu v1 (.un .not v5) fun v6 => zi v1 (B true) v6 fun v7 => .ite v7 (zr [(I 1)]) (a215x0 v0)
def a215 : List AV → AC := fun v0 => .bind (.op (.eq 339 false (nth v0 0) Np) fun v1 => zu v1 (.mv (nth v0 0)) fun v2 => zu v1 (.nilchk v2) fun v3 => (a215x1 v0 v1 v3)) (some 0) (fun v1 => zn (nth v0 0) fun v2 => zf 2 v2 fun v3 => zl v3 fun v4 => zr [v4]) (fun v1 => [(nth v1 0)])
theorem e215 : denFn prog f215 [2] = a215 := by kernel_rfl
def a216x0 (v3 v4 : AV) : AC := .op (.build [(I 0), (I 0), (I 0), (I 0)] []) fun v8 => .op (.store 4 v3 v8) fun v9 => zs v4 (B false) fun b0 => zr [v3, v4]
def a216x1 (v4 : AV) : AC := zs v4 (B true) fun b7 => zr []
def a216x2 (v2 v3 v4 : AV) (b0 : List AV) (b1 : AV) : AC := zl v2 fun b3 => zb .eql (nth b0 1) b3 fun b4 => .ite b4 (.op (.load 4 true b1) fun b5 => .op (.store 4 v3 b5) fun b6 => (a216x1 v4)) (zm [])
def a216x3 (v2 v3 v4 : AV) (b0 : List AV) : AC := .op (.alloc [(I 0), (I 0), (I 0), (I 0)]) fun b1 => .op (.store 4 b1 (nth b0 2)) fun b2 => .start (nth b0 0) (.bind (a216x2 v2 v3 v4 b0 b1) (some 1) (fun b3 => zm []) (fun b3 => []))
def a216x4 (v3 v4 b1 : AV) : AC := .op (.store 4 v3 b1) fun b2 => zs v4 (B false) fun b3 => zr [v3, v4]
def a216x5 (v1 v2 v3 v4 : AV) : AC := .op (.load 3 true v1) fun v8 => zc 90 [v8] fun v9 => .bind (.rng 2 v9 (fun b0 => (a216x3 v2 v3 v4 b0)) (zm []) []) (some 0) (fun b0 => .op (.build [(I 0), (I 0), (I 0), (I 0)] []) fun b1 => (a216x4 v3 v4 b1)) (fun b0 => [v3, v4])
def a216x6 (v1 v2 v3 : AV) : AC := .op (.alloc [(B false)]) fun v4 => .op (.load 3 true v1) fun v5 => zc 89 [v5] fun v6 => .op (.un .not v6) fun v7 => .ite v7 (a216x0 v3 v4) (a216x5 v1 v2 v3 v4)
def a216 : List AV → AC := fun v0 => .fin (.op (.box (nth v0 0)) fun v1 => .op (.box (nth v0 1)) fun v2 => .op (.alloc [(I 0), (I 0), (I 0), (I 0)]) fun v3 => (a216x6 v1 v2 v3)) fun v1 => .op (.load 4 true (nth v1 0)) fun v2 => zl (nth v1 1) fun v3 => zr [v2, v3]
theorem e216 : denFn prog f216 [] = a216 := by kernel_rfl
def a217x0 (v0 : List AV) (bo bp : AV) : AC := zt bo (.load 1 false (nth v0 1)) fun bq => .gcall bo true (zF 227) [bq] fun br => .gcall bo true bp [br] fun bs => zi bo bs (B false) fun bt => zr []
def a217x1 (v0 : List AV) (bj : AV) : AC := zt bj (.mv (nth v0 0)) fun bk => zt bj (.mv (.fn (.func 225) [] [(nth v0 2), (nth v0 1)])) fun bl => .gcall bj true (zF 224) [bl, Nf] fun bm => .gcall bj true bk [bm] fun bn => zi bj bn (B false) fun bo => zt bo (.mv (nth v0 0)) fun bp => (a217x0 v0 bo bp)
def a217x2 (v0 : List AV) (bc bd : AV) : AC := zt bc (.load 1 false (nth v0 1)) fun be => zt bc (.mv (.fn (.func 223) [] [(nth v0 1)])) fun bf => zt bc (.load 1 false (nth v0 3)) fun bg => .gcall bc true (zF 222) [be, bf, bg] fun bh => .gcall bc true bd [bh] fun bi => zi bc bi (B false) fun bj => (a217x1 v0 bj)
def a217x3 (v0 : List AV) (b7 : AV) : AC := zt b7 (.mv (nth v0 0)) fun b8 => zt b7 (.load 1 false (nth v0 1)) fun b9 => .gcall b7 true (zF 218) [b9, (I 2), (I 3)] fun ba => .gcall b7 true b8 [ba] fun bb => zi b7 bb (B false) fun bc => zt bc (.mv (nth v0 0)) fun bd => (a217x2 v0 bc bd)
def a217x4 (v0 : List AV) (b1 : AV) : AC := zt b1 (.mv (nth v0 0)) fun b2 => zt b1 (.load 1 false (nth v0 1)) fun b3 => zt b1 (.mv (.fn (.func 221) [] [(nth v0 1)])) fun b4 => .gcall b1 true (zF 220) [b3, b4] fun b5 => .gcall b1 true b2 [b5] fun b6 => zi b1 b6 (B false) fun b7 => (a217x3 v0 b7)
def a217x5 (v0 : List AV) (v4 v5 : AV) : AC := zf 32 v5 fun v6 => zs v6 v4 fun v7 => zl (nth v0 1) fun v8 => .op (.load 4 true (nth v0 2)) fun v9 => zc 219 [v8, v9] fun b0 => .call (nth v0 0) [b0] fun b1 => (a217x4 v0 b1)
def a217 : List AV → AC := fun v0 => zl (nth v0 1) fun v1 => zl (nth v0 1) fun v2 => zc 218 [v2, (I 3), (I 2)] fun v3 => .chk (.load 1 false (nth v0 1)) v1 (.op (.bslice 1 1 [Nf] [(0, 1, v3)]) fun v4 => zn v1 fun v5 => (a217x5 v0 v4 v5))
theorem e217 : denFn prog f217 [] = a217 := by kernel_rfl
def a218 : List AV → AC := fun v0 => .op (.box (nth v0 0)) fun v1 => .op (.box (nth v0 1)) fun v2 => .op (.box (nth v0 2)) fun v3 => zc 286 [(.fn (.func 287) [] [v1, v2, v3]), Nf] fun v4 => zr [v4]
theorem e218 : denFn prog f218 [] = a218 := by kernel_rfl
def a219 : List AV → AC := fun v0 => .op (.box (nth v0 0)) fun v1 => .op (.box (nth v0 1)) fun v2 => zc 289 [(.fn (.func 290) [] [v2]), (.fn (.func 292) [] [v1])] fun v3 => zr [v3]
theorem e219 : denFn prog f219 [] = a219 := by kernel_rfl
def a220 : List AV → AC := fun v0 => .op (.box (nth v0 0)) fun v1 => .op (.box (nth v0 1)) fun v2 => zc 295 [(.fn (.func 296) [] [v1]), (.fn (.func 298) [] [v1, v2])] fun v3 => zr [v3]
theorem e220 : denFn prog f220 [] = a220 := by kernel_rfl
def a221x0 (v0 : List AV) : AC := zl (nth v0 2) fun v3 => zc 196 [v3, (I 5)] fun v4 => zm []
def a221 : List AV → AC := fun v0 => .op (.box (nth v0 0)) fun v1 => zb .neq (nth v0 1) (I 0) fun v2 => .bind (.ite v2 (a221x0 v0) (zm [])) none (fun v3 => zr []) (fun v3 => [])
theorem e221 : denFn prog f221 [] = a221 := by kernel_rfl
def a222 : List AV → AC := fun v0 => .op (.box (nth v0 0)) fun v1 => .op (.box (nth v0 1)) fun v2 => .op (.box (nth v0 2)) fun v3 => zc 301 [(.fn (.func 302) [] [v1, v2, v3]), (.fn (.func 304) [] [v1])] fun v4 => zr [v4]
theorem e222 : denFn prog f222 [] = a222 := by kernel_rfl
def a223 : List AV → AC := fun v0 => zl (nth v0 0) fun v1 => zn v1 fun v2 => zf 34 v2 fun v3 => zl v3 fun v4 => zr [v4]
theorem e223 : denFn prog f223 [] = a223 := by kernel_rfl
def a224 : List AV → AC := fun v0 => .op (.box (nth v0 0)) fun v1 => .op (.box (nth v0 1)) fun v2 => .op (.alloc [Np]) fun v3 => .op (.alloc [(B false)]) fun v4 => zs v4 (B false) fun v5 => zr [(.fn (.func 306) [] [v4, v1, v3, v2])]
theorem e224 : denFn prog f224 [] = a224 := by kernel_rfl
def a225 : List AV → AC := fun v0 => .op (.load 4 true (nth v0 0)) fun v1 => zl (nth v0 1) fun v2 => zn v2 fun v3 => zf 35 v3 fun v4 => zl v4 fun v5 => zc 226 [v1, v5] fun v6 => zr [v6]
theorem e225 : denFn prog f225 [] = a225 := by kernel_rfl
def a226x0 (v5 b0 : AV) : AC := .ite b0 (zn v5 fun b1 => zf 0 b1 fun b2 => zf 4 b2 fun b3 => .op (.store 1 b3 (.fn (.func 308) [v5] [])) fun b4 => zm []) (zm [])
def a226x1 (v5 v6 : AV) : AC := zf 0 v6 fun v7 => zf 6 v7 fun v8 => zl v8 fun v9 => zb .eql v9 (I 0) fun b0 => .bind (a226x0 v5 b0) none (fun b1 => zr [v5]) (fun b1 => [Np])
def a226 : List AV → AC := fun v0 => .op (.box (nth v0 0)) fun v1 => .op (.load 4 true v1) fun v2 => zc 307 [v2] fun v3 => .op (.build [(I 0), (I 0), (I 0), (I 0), Nf, (B false), (I 0), (U 0)] [(0, 7, v3), (7, 1, (nth v0 1))]) fun v4 => .op (.box v4) fun v5 => zn v5 fun v6 => (a226x1 v5 v6)
theorem e226 : denFn prog f226 [] = a226 := by kernel_rfl
def a227 : List AV → AC := fun v0 => .op (.box (nth v0 0)) fun v1 => zc 309 [(.fn (.func 310) [] [v1]), Nf] fun v2 => zr [v2]
theorem e227 : denFn prog f227 [] = a227 := by kernel_rfl
def a228x0 (v1 v6 : AV) : AC := zi v1 (B true) v6 fun v7 => zr [v7]
def a228 : List AV → AC := fun v0 => .op (.eq 86 false (nth v0 0) Np) fun v1 => zu v1 (.mv (nth v0 0)) fun v2 => zu v1 (.nilchk v2) fun v3 => zu v1 (.faddr 0 v3) fun v4 => zu v1 (.load 1 false v4) fun v5 => zu v1 (.eq 223 false v5 Np) fun v6 => (a228x0 v1 v6)
theorem e228 : denFn prog f228 [] = a228 := by kernel_rfl
def a229x0 (v1 : List AV) (v3 v8 : AV) : AC := zu v3 (.bin .eql v8 (U 0)) fun v9 => zi v3 (B true) v9 fun b0 => .ite b0 (.ret (.exit 0) [(nth v1 1)]) (zb .add (nth v1 1) (I 1) fun b1 => zm [b1])
def a229x1 (v0 v1 : List AV) : AC := zb .geq (nth v1 1) (nth v0 1) fun v3 => zu v3 (.mv (nth v0 0)) fun v4 => zu v3 (.conv .u64 v4) fun v5 => zu v3 (.mv (nth v1 0)) fun v6 => zu v3 (.bin .shr v5 v6) fun v7 => zu v3 (.bin .and v7 (U 1)) fun v8 => (a229x0 v1 v3 v8)
def a229x2 (v1 v3 : List AV) : AC := zb .add (nth v1 0) (I 1) fun v4 => zm [v4, (nth v3 0)]
def a229x3 (v0 v1 : List AV) : AC := zb .lss (nth v1 0) (I 64) fun v2 => .ite v2 (.bind (a229x1 v0 v1) (some 1) (fun v3 => (a229x2 v1 v3)) (fun v3 => [(nth v1 0), (nth v3 0)])) (.ret (.exit 0) [(nth v1 0), (nth v1 1)])
def a229 : List AV → AC := fun v0 => .bind (.loop [(I 0), (I 1)] (fun v1 => (a229x3 v0 v1)) (fun v1 => [(nth v1 0), (nth v1 1)])) (some 0) (fun v1 => zr [(nth v1 1)]) (fun v1 => [(I 0)])
theorem e229 : denFn prog f229 [5, 7] = a229 := by kernel_rfl
def a230x0 (v1 : AV) (v5 : List AV) : AC := .start (nth v5 0) (.bind (zs v1 (nth v5 1) fun v6 => .ret (.exit 0) []) (some 1) (fun v6 => zm []) (fun v6 => []))
def a230x1 (v1 v4 : AV) : AC := .bind (.rng 1 v4 (fun v5 => (a230x0 v1 v5)) (zm []) []) (some 0) (fun v5 => zl v1 fun v6 => zr [v6]) (fun v5 => [(I 0)])
def a230 : List AV → AC := fun v0 => .op (.alloc [(I 0)]) fun v1 => zs v1 (I 0) fun v2 => zc 228 [(nth v0 0)] fun v3 => .ite v3 (zl v1 fun v4 => zr [v4]) (zc 312 [(nth v0 0)] fun v4 => (a230x1 v1 v4))
theorem e230 : denFn prog f230 [2] = a230 := by kernel_rfl
def a231 : List AV → AC := fun v0 => zl (nth v0 1) fun v1 => zc 232 [v1, (.fn (.func 233) [] [(nth v0 1)])] fun v2 => .call (nth v0 0) [v2] fun v3 => zr []
theorem e231 : denFn prog f231 [] = a231 := by kernel_rfl
def a232 : List AV → AC := fun v0 => .op (.box (nth v0 0)) fun v1 => .op (.box (nth v0 1)) fun v2 => zc 203 [(.fn (.func 313) [] [v1, v2])] fun v3 => zr [v3]
theorem e232 : denFn prog f232 [] = a232 := by kernel_rfl
def a233x0 (v0 : List AV) (v2 v4 : AV) : AC := .chk (.load 1 false (nth v0 1)) v2 (zc 143 [v2, v4] fun v5 => zr [])
def a233 : List AV → AC := fun v0 => zb .geq (nth v0 0) (I 0) fun v1 => .ite v1 (zl (nth v0 1) fun v2 => zc 196 [v2, (I 11)] fun v3 => zr []) (zl (nth v0 1) fun v2 => zl (nth v0 1) fun v3 => zc 234 [v3] fun v4 => (a233x0 v0 v2 v4))
theorem e233 : denFn prog f233 [] = a233 := by kernel_rfl
def a234 : List AV → AC := fun v0 => .op (.box (nth v0 0)) fun v1 => zr [(.fn (.func 314) [] [v1])]
theorem e234 : denFn prog f234 [] = a234 := by kernel_rfl
def a235x0 (v7 b2 : AV) : AC := zi v7 b2 (B false) fun b3 => zr []
def a235x1 (v0 : List AV) (v2 v6 : AV) : AC := zi v2 v6 (B false) fun v7 => zt v7 (.mv (nth v0 0)) fun v8 => zt v7 (.load 1 false (nth v0 2)) fun v9 => zt v7 (.mv (.fn (.func 239) [] [(nth v0 2), (nth v0 3)])) fun b0 => .gcall v7 true (zF 232) [v9, b0] fun b1 => .gcall v7 true v8 [b1] fun b2 => (a235x0 v7 b2)
def a235 : List AV → AC := fun v0 => zc 203 [(.fn (.func 236) [] [(nth v0 1), (nth v0 2)])] fun v1 => .call (nth v0 0) [v1] fun v2 => zt v2 (.mv (nth v0 0)) fun v3 => zt v2 (.load 1 false (nth v0 1)) fun v4 => .gcall v2 true (zF 238) [v4, (U 0)] fun v5 => .gcall v2 true v3 [v5] fun v6 => (a235x1 v0 v2 v6)
theorem e235 : denFn prog f235 [] = a235 := by kernel_rfl
def a236x0 (v0 : List AV) (v3 : AV) : AC := .ite v3 (zl (nth v0 2) fun v4 => zc 196 [v4, (I 15)] fun v5 => zm []) (zm [])
def a236 : List AV → AC := fun v0 => zl (nth v0 1) fun v1 => zc 237 [(nth v0 0), v1] fun v2 => zb .eql v2 (U 0) fun v3 => .bind (a236x0 v0 v3) none (fun v4 => zr []) (fun v4 => [])
theorem e236 : denFn prog f236 [] = a236 := by kernel_rfl
def a237x0 (v0 : List AV) (v3 v6 : AV) : AC := .op (.load 3 true v3) fun v7 => zc 170 [(nth v0 0), (I 1), (nth v0 1), v6, (.fn (.func 321) [v7] [])] fun v8 => .op (.part 3 1 false v8) fun v9 => zr [v9]
def a237 : List AV → AC := fun v0 => zc 169 [(nth v0 0), (nth v0 1)] fun v1 => .op (.build [Np, (U 0), (U 0)] [(0, 1, v1)]) fun v2 => .op (.alloc [Np, (U 0), (U 0)]) fun v3 => .op (.store 3 v3 v2) fun v4 => zf 0 v3 fun v5 => zl v5 fun v6 => (a237x0 v0 v3 v6)
theorem e237 : denFn prog f237 [] = a237 := by kernel_rfl
def a238 : List AV → AC := fun v0 => .op (.box (nth v0 0)) fun v1 => .op (.box (nth v0 1)) fun v2 => zc 203 [(.fn (.func 322) [] [v1, v2])] fun v3 => zr [v3]
theorem e238 : denFn prog f238 [] = a238 := by kernel_rfl
def a239x0 (v0 : List AV) (b0 b3 : AV) : AC := .chk (.load 1 false (nth v0 1)) b0 (zc 143 [b0, b3] fun b4 => zm [])
def a239x1 (v0 : List AV) (v9 : AV) : AC := .ite v9 (zl (nth v0 1) fun b0 => zl (nth v0 1) fun b1 => zl (nth v0 2) fun b2 => zc 240 [b1, b2] fun b3 => (a239x0 v0 b0 b3)) (zm [])
def a239x2 (v0 : List AV) (v5 v6 : AV) : AC := zc 234 [v6] fun v7 => .chk (.load 1 false (nth v0 1)) v5 (zc 143 [v5, v7] fun v8 => zb .geq (nth v0 0) (I 0) fun v9 => .bind (a239x1 v0 v9) none (fun b0 => zr []) (fun b0 => []))
def a239 : List AV → AC := fun v0 => zl (nth v0 1) fun v1 => zn v1 fun v2 => zf 33 v2 fun v3 => zs v3 (nth v0 0) fun v4 => zl (nth v0 1) fun v5 => zl (nth v0 1) fun v6 => (a239x2 v0 v5 v6)
theorem e239 : denFn prog f239 [] = a239 := by kernel_rfl
def a240x0 (v1 v2 b4 b6 b8 bl bm bn bo : AV) : AC := zc 208 [bl, (.fn (.func 323) [] [v1])] fun bp => .chk (.load 1 false v1) b8 (.op (.bslice 1 4 [Nf] [(0, 1, bm), (1, 1, bn), (2, 1, bo), (3, 1, bp)]) fun bq => zn b8 fun br => zf 32 br fun bs => zs bs bq fun bt => zr [(.fn (.func 326) [] [v1, b4, b6, v2])])
def a240x1 (v1 v2 b4 b6 b8 bk bl bm bn : AV) : AC := .chk (.load 1 false v1) b8 (.chk (.load 1 false v1) bk (.chk (.load 1 false v1) bl (zc 218 [bk, (I 3), (I 4)] fun bo => .chk (.load 1 false v1) b8 (.chk (.load 1 false v1) bl (a240x0 v1 v2 b4 b6 b8 bl bm bn bo)))))
def a240x2 (v1 v2 b4 b6 b8 bj bk : AV) : AC := zl v1 fun bl => zc 238 [bj, (U 1)] fun bm => .chk (.load 1 false v1) b8 (.chk (.load 1 false v1) bk (.chk (.load 1 false v1) bl (zc 203 [(.fn (.func 325) [] [b4, v1])] fun bn => (a240x1 v1 v2 b4 b6 b8 bk bl bm bn))))
def a240x3 (v1 v2 b4 b6 b8 be : AV) : AC := zl v1 fun bf => zn bf fun bg => zf 30 bg fun bh => zl bh fun bi => zb .add be bi fun bj => zl v1 fun bk => (a240x2 v1 v2 b4 b6 b8 bj bk)
def a240x4 (v1 v2 b4 b6 b8 : AV) : AC := zl v1 fun b9 => zn b9 fun ba => zf 0 ba fun bb => zf 23 bb fun bc => zf 1 bc fun bd => zl bd fun be => (a240x3 v1 v2 b4 b6 b8 be)
def a240x5 (v1 v2 v8 b2 : AV) : AC := zb .add v8 b2 fun b3 => .op (.alloc [(I 0)]) fun b4 => zs b4 b3 fun b5 => .op (.alloc [Nf]) fun b6 => .op (.store 1 b6 (.fn (.func 324) [] [v1])) fun b7 => zl v1 fun b8 => (a240x4 v1 v2 b4 b6 b8)
def a240x6 (v1 v2 v6 : AV) : AC := zf 0 v6 fun v7 => zl v7 fun v8 => zl v1 fun v9 => zn v9 fun b0 => zf 30 b0 fun b1 => zl b1 fun b2 => (a240x5 v1 v2 v8 b2)
def a240 : List AV → AC := fun v0 => .op (.box (nth v0 0)) fun v1 => .op (.box (nth v0 1)) fun v2 => zl v1 fun v3 => zn v3 fun v4 => zf 0 v4 fun v5 => zf 23 v5 fun v6 => (a240x6 v1 v2 v6)
theorem e240 : denFn prog f240 [] = a240 := by kernel_rfl
def a243x0 (v1 v7 : AV) : AC := .op (.load 1 false v1) fun v9 => .op (.load 2 true v7) fun b0 => .call v9 [b0] fun b1 => .op (.un .not b1) fun b2 => .ite b2 (.ret .ret []) (.ret .normal [])
def a243x1 (v1 : AV) (v6 : List AV) : AC := .op (.alloc [(I 0), (I 0)]) fun v7 => .op (.store 2 v7 (nth v6 1)) fun v8 => .start (nth v6 0) (.bind (a243x0 v1 v7) (some 3) (fun v9 => .ret .normal []) (fun v9 => []))
def a243x2 (v0 : List AV) (v1 : AV) (v2 : List AV) : AC := .op (.load 1 false (nth v0 1)) fun v4 => .call (.fn (.func 244) [] []) [v4, (nth v2 0)] fun v5 => .bind (.rng 1 v5 (fun v6 => (a243x1 v1 v6)) (.ret .normal []) []) (some 2) (fun v6 => .ret .normal []) (fun v6 => [])
def a243x3 (v2 : List AV) : AC := .op (.bin .add (nth v2 0) (I 1)) fun v5 => .ret .normal [v5]
def a243x4 (v0 : List AV) (v1 : AV) (v2 : List AV) : AC := .op (.bin .lss (nth v2 0) (I 11)) fun v3 => .ite v3 (.bind (a243x2 v0 v1 v2) (some 1) (fun v4 => (a243x3 v2)) (fun v4 => [(nth v2 0)])) (.ret (.exit 0) [(nth v2 0)])
def a243 : List AV → AC := fun v0 => .op (.box (nth v0 0)) fun v1 => .bind (.loop [(I 0)] (fun v2 => (a243x4 v0 v1 v2)) (fun v2 => [(nth v2 0)])) (some 0) (fun v2 => .ret .ret []) (fun v2 => [])
theorem e243 : denFn prog f243 [5] = a243 := by kernel_rfl
def a244 : List AV → AC := fun v0 => .op (.box (nth v0 0)) fun v1 => .op (.box (nth v0 1)) fun v2 => .ret .ret [(.fn (.func 328) [] [v1, v2])]
theorem e244 : denFn prog f244 [] = a244 := by kernel_rfl
def a245x0 (v7 v8 : AV) : AC := .ite v8 (.op (.bin .sub v7 (I 1)) fun v9 => .op (.bin .quo v9 (I 4)) fun b0 => .ret .normal [b0]) (.ret .normal [(I 0)])
def a245x1 (v0 : List AV) (v1 : AV) (v9 : List AV) : AC := .op (.bin .mul (I 4) (nth v9 0)) fun b0 => .op (.bin .shr (nth v0 1) b0) fun b1 => .op (.bin .rem b1 (I 16)) fun b2 => .op (.build [(I 0), (I 0)] [(0, 1, (nth v9 0)), (1, 1, b2)]) fun b3 => .op (.store 2 v1 b3) fun b4 => .ret .ret [v1]
def a245x2 (v0 : List AV) (v1 v3 : AV) : AC := .op (.load 1 false v3) fun v4 => .op (.bin .xor (nth v0 1) v4) fun v5 => .op (.conv .u64 v5) fun v6 => .call (.fn (.func 182) [] []) [v6] fun v7 => .op (.bin .gtr v7 (I 0)) fun v8 => .bind (a245x0 v7 v8) none (fun v9 => (a245x1 v0 v1 v9)) (fun v9 => [v1])
def a245 : List AV → AC := fun v0 => .fin (.op (.alloc [(I 0), (I 0)]) fun v1 => .op (.nilchk (nth v0 0)) fun v2 => .op (.faddr 0 v2) fun v3 => (a245x2 v0 v1 v3)) fun v1 => .op (.load 2 true (nth v1 0)) fun v2 => .ret .ret [v2]
theorem e245 : denFn prog f245 [5] = a245 := by kernel_rfl
def a246x0 (v3 : List AV) (v8 b3 : AV) : AC := .ite b3 (.op (.bin .add v8 (I 1)) fun b4 => .ret .normal [(nth v3 0), b4]) (.ret .normal [v8, (nth v3 1)])
def a246x1 (v0 : List AV) (v1 : AV) (v3 : List AV) (v8 b0 : AV) : AC := .op (.load 2 true v1) fun b1 => .call (nth v0 2) [b0, b1] fun b2 => .op (.bin .lss b2 (I 0)) fun b3 => .bind (a246x0 v3 v8 b3) none (fun b4 => .ret .normal [(nth b4 0), (nth b4 1)]) (fun b4 => [(nth b4 0), (nth b4 1)])
def a246x2 (v0 : List AV) (v1 : AV) (v3 : List AV) : AC := .op (.bin .add (nth v3 1) (nth v3 0)) fun v5 => .op (.conv .u64 v5) fun v6 => .op (.bin .shr v6 (U 1)) fun v7 => .op (.conv .i64 v7) fun v8 => .op (.saddr 2 (nth v0 0) v8) fun v9 => .op (.load 2 true v9) fun b0 => (a246x1 v0 v1 v3 v8 b0)
def a246x3 (v0 : List AV) (v1 : AV) (v3 : List AV) : AC := .op (.bin .lss (nth v3 1) (nth v3 0)) fun v4 => .ite v4 (.bind (a246x2 v0 v1 v3) (some 1) (fun v5 => .ret .normal [(nth v5 0), (nth v5 1)]) (fun v5 => [(nth v5 0), (nth v5 1)])) (.ret (.exit 0) [(nth v3 0), (nth v3 1)])
def a246x4 (v3 : List AV) (v4 v5 v9 b0 : AV) : AC := .gcall v4 true v5 [v9, b0] fun b1 => .gop v4 true (.bin .eql b1 (I 0)) fun b2 => .op (.pick v4 b2 (B false)) fun b3 => .ret .ret [(nth v3 1), b3]
def a246x5 (v0 : List AV) (v1 : AV) (v3 : List AV) (v4 : AV) : AC := .gop v4 true (.mv (nth v0 2)) fun v5 => .gop v4 true (.mv (nth v0 0)) fun v6 => .gop v4 true (.mv (nth v3 1)) fun v7 => .gop v4 true (.saddr 2 v6 v7) fun v8 => .gop v4 true (.load 2 true v8) fun v9 => .gop v4 true (.load 2 true v1) fun b0 => (a246x4 v3 v4 v5 v9 b0)
def a246 : List AV → AC := fun v0 => .op (.box (nth v0 1)) fun v1 => .op (.len false (nth v0 0)) fun v2 => .bind (.loop [v2, (I 0)] (fun v3 => (a246x3 v0 v1 v3)) (fun v3 => [(nth v3 0), (nth v3 1)])) (some 0) (fun v3 => .op (.bin .lss (nth v3 1) v2) fun v4 => (a246x5 v0 v1 v3 v4)) (fun v3 => [(I 0), (B false)])
theorem e246 : denFn prog f246 [9, 10] = a246 := by kernel_rfl
def a247x0 (v8 v9 b0 b1 : AV) : AC := .chk (.load 1 false v9) b0 (.call (.fn (.func 131) [] []) [v8, b0] fun b2 => .op (.bslice 1 2 [(I 0)] [(0, 1, b1), (1, 1, b2)]) fun b3 => .call (.fn (.func 129) [] []) [b3] fun b4 => .ret .ret [b4])
def a247x1 (v1 v2 v4 v6 : AV) : AC := .op (.faddr 0 v1) fun v7 => .op (.load 1 false v7) fun v8 => .op (.faddr 0 v2) fun v9 => .op (.load 1 false v9) fun b0 => .call (.fn (.func 131) [] []) [v4, v6] fun b1 => .chk (.load 1 false v7) v8 (a247x0 v8 v9 b0 b1)
def a247 : List AV → AC := fun v0 => .op (.box (nth v0 0)) fun v1 => .op (.box (nth v0 1)) fun v2 => .op (.faddr 1 v1) fun v3 => .op (.load 1 false v3) fun v4 => .op (.faddr 1 v2) fun v5 => .op (.load 1 false v5) fun v6 => (a247x1 v1 v2 v4 v6)
theorem e247 : denFn prog f247 [] = a247 := by kernel_rfl
def a249x0 (v0 : List AV) (v3 v4 b2 b3 b4 : AV) : AC := .op (.load 1 false (nth v0 2)) fun b5 => .op (.bin .leq b4 b5) fun b6 => .op (.store 2 v3 b2) fun b7 => .chk (.load 1 false b3) b4 (.chk (.load 1 false (nth v0 2)) b5 (.op (.store 1 v4 b6) fun b8 => .ret (.exit 2) []))
def a249x1 (v0 : List AV) (v3 v4 b0 : AV) : AC := .bind (.op (.load 2 true b0) fun b2 => .op (.faddr 1 b0) fun b3 => .op (.load 1 false b3) fun b4 => (a249x0 v0 v3 v4 b2 b3 b4)) (some 3) (fun b2 => .ret .normal []) (fun b2 => [])
def a249x2 (v0 : List AV) (v3 v4 v8 : AV) : AC := .rng 1 v8 (fun v9 => .op (.alloc [(I 0), (I 0)]) fun b0 => .op (.store 2 b0 (nth v9 1)) fun b1 => .start (nth v9 0) (a249x1 v0 v3 v4 b0)) (.ret .normal []) []
def a249x3 (v0 : List AV) (v3 b2 b3 : AV) : AC := .op (.load 1 false b3) fun b4 => .call (.fn (.func 172) [] []) [b2, b4] fun b5 => .op (.load 2 true v3) fun b6 => .call (nth v0 0) [b6] fun b7 => .op (.un .not b7) fun b8 => .ite b8 (.ret .ret []) (.ret .normal [])
def a249x4 (v0 : List AV) (v3 v4 : AV) : AC := .op (.load 1 false v4) fun b0 => .op (.un .not b0) fun b1 => .ite b1 (.ret .ret []) (.op (.load 1 false (nth v0 1)) fun b2 => .op (.faddr 0 v3) fun b3 => (a249x3 v0 v3 b2 b3))
def a249x5 (v0 : List AV) (v2 v3 v4 : AV) : AC := .op (.store 2 v3 v2) fun v5 => .op (.store 1 v4 (B false)) fun v6 => .op (.load 1 false (nth v0 1)) fun v7 => .call (.fn (.func 155) [] []) [v7] fun v8 => .bind (a249x2 v0 v3 v4 v8) (some 2) (fun v9 => (a249x4 v0 v3 v4)) (fun v9 => [])
def a249x6 (v0 : List AV) : AC := .bind (.op (.build [(I 0), (I 0)] []) fun v2 => .op (.alloc [(I 0), (I 0)]) fun v3 => .op (.alloc [(B false)]) fun v4 => (a249x5 v0 v2 v3 v4)) (some 1) (fun v2 => .ret .normal []) (fun v2 => [])
def a249 : List AV → AC := fun v0 => .bind (.loop [] (fun v1 => (a249x6 v0)) (fun v1 => [])) (some 0) (fun v1 => .ret .ret []) (fun v1 => [])
theorem e249 : denFn prog f249 [] = a249 := by kernel_rfl
def a250 : List AV → AC := fun v0 => .call (.fn (.func 331) [] []) [Ns, (nth v0 0)] fun v1 => .ret .ret [v1]
theorem e250 : denFn prog f250 [] = a250 := by kernel_rfl
def a252x0 (v0 : List AV) (b8 : AV) : AC := zc 116 [(nth v0 1), b8, (U 1)] fun b9 => zm []
def a252x1 (v0 : List AV) (v1 : AV) (b4 : List AV) : AC := .bind (zf 3 v1 fun b6 => zl b6 fun b7 => zb .add b7 (nth b4 0) fun b8 => (a252x0 v0 b8)) (some 1) (fun b6 => zb .add (nth b4 0) (I 1) fun b7 => zm [b7]) (fun b6 => [(nth b4 0)])
def a252x2 (v0 : List AV) (v1 b3 : AV) : AC := .loop [(I 0)] (fun b4 => zb .lss (nth b4 0) b3 fun b5 => .ite b5 (a252x1 v0 v1 b4) (.ret (.exit 0) [(nth b4 0)])) (fun b4 => [(nth b4 0)])
def a252x3 (v0 : List AV) (v1 : AV) : AC := zf 0 v1 fun b1 => zf 2 b1 fun b2 => zl b2 fun b3 => .bind (a252x2 v0 v1 b3) (some 0) (fun b4 => zr []) (fun b4 => [])
def a252x4 (v0 : List AV) (v1 : AV) : AC := zf 0 v1 fun v5 => .op (.load 3 true v5) fun v6 => zc 166 [v6, (nth v0 1)] fun v7 => zf 4 v1 fun v8 => zl v8 fun v9 => zc 116 [(nth v0 1), v9, (U 0)] fun b0 => (a252x3 v0 v1)
def a252 : List AV → AC := fun v0 => .op (.box (nth v0 0)) fun v1 => .op (.load 6 true v1) fun v2 => zc 333 [v2] fun v3 => .op (.un .not v3) fun v4 => .ite v4 (zr []) (a252x4 v0 v1)
theorem e252 : denFn prog f252 [19] = a252 := by kernel_rfl
def a253x0 (v2 : AV) (b2 : List AV) : AC := .start (nth b2 0) (.bind (zl v2 fun b3 => zc 116 [b3, (nth b2 2), (U 0)] fun b4 => zm []) (some 1) (fun b3 => zm []) (fun b3 => []))
def a253x1 (v2 b1 : AV) : AC := .bind (.rng 2 b1 (fun b2 => (a253x0 v2 b2)) (zm []) []) (some 0) (fun b2 => zr []) (fun b2 => [])
def a253x2 (v1 v2 : AV) : AC := zl v2 fun v6 => zf 0 v1 fun v7 => zl v7 fun v8 => zc 116 [v6, v8, (U 0)] fun v9 => .op (.load 3 true v1) fun b0 => zc 335 [b0] fun b1 => (a253x1 v2 b1)
def a253 : List AV → AC := fun v0 => .op (.box (nth v0 0)) fun v1 => .op (.box (nth v0 1)) fun v2 => .op (.load 3 true v1) fun v3 => zc 334 [v3] fun v4 => .op (.un .not v4) fun v5 => .ite v5 (zr []) (a253x2 v1 v2)
theorem e253 : denFn prog f253 [] = a253 := by kernel_rfl
def a254x0 (v1 v2 v5 v9 : AV) : AC := zf 0 v1 fun b0 => zf 0 b0 fun b1 => zf 2 b1 fun b2 => zl b2 fun b3 => .op (.build [(I 0), (I 0), (I 0)] [(0, 1, v5), (1, 1, v9), (2, 1, b3)]) fun b4 => .op (.store 3 v2 b4) fun b5 => zr [v2]
def a254x1 (v0 : List AV) (v1 v2 v3 : AV) : AC := zl v3 fun v4 => zb .add v4 (nth v0 0) fun v5 => zf 0 v1 fun v6 => zf 0 v6 fun v7 => zf 1 v7 fun v8 => zl v8 fun v9 => (a254x0 v1 v2 v5 v9)
def a254 : List AV → AC := fun v0 => .fin (.op (.box (nth v0 1)) fun v1 => .op (.alloc [(I 0), (I 0), (I 0)]) fun v2 => zf 9 v1 fun v3 => (a254x1 v0 v1 v2 v3)) fun v1 => .op (.load 3 true (nth v1 0)) fun v2 => zr [v2]
theorem e254 : denFn prog f254 [] = a254 := by kernel_rfl
def a255x0 (v0 v3 : List AV) : AC := zf 0 (nth v0 1) fun v5 => zl v5 fun v6 => zb .add v6 (nth v3 0) fun v7 => .call (nth v0 0) [v7] fun v8 => .op (.un .not v8) fun v9 => .ite v9 (zr []) (zm [])
def a255x1 (v3 : List AV) : AC := zb .add (nth v3 0) (I 1) fun v6 => zm [v6]
def a255x2 (v0 : List AV) (v2 : AV) (v3 : List AV) : AC := zb .lss (nth v3 0) v2 fun v4 => .ite v4 (.bind (a255x0 v0 v3) (some 1) (fun v5 => (a255x1 v3)) (fun v5 => [(nth v3 0)])) (.ret (.exit 0) [(nth v3 0)])
def a255 : List AV → AC := fun v0 => zf 1 (nth v0 1) fun v1 => zl v1 fun v2 => .bind (.loop [(I 0)] (fun v3 => (a255x2 v0 v2 v3)) (fun v3 => [(nth v3 0)])) (some 0) (fun v3 => zr []) (fun v3 => [])
theorem e255 : denFn prog f255 [6] = a255 := by kernel_rfl
def a256x0 (v4 v6 : AV) : AC := zt v4 (.bin .leq v6 (I 4096)) fun v7 => zi v4 v7 (B false) fun v8 => zr [v8]
def a256 : List AV → AC := fun v0 => .op (.box (nth v0 0)) fun v1 => zf 2 v1 fun v2 => zl v2 fun v3 => zb .geq v3 (I 1) fun v4 => zt v4 (.faddr 2 v1) fun v5 => zt v4 (.load 1 false v5) fun v6 => (a256x0 v4 v6)
theorem e256 : denFn prog f256 [] = a256 := by kernel_rfl
def a257 : List AV → AC := fun v0 => .op (.build [(I 0), (I 0)] [(0, 1, (nth v0 0))]) fun v1 => zc 336 [v1] fun v2 => .op (.extract 0 v2) fun v3 => .op (.extract 1 v2) fun v4 => zr [v3]
theorem e257 : denFn prog f257 [] = a257 := by kernel_rfl
def a258 : List AV → AC := fun v0 => .op (.eq 292 true (nth v0 0) Np) fun v1 => zr [v1]
theorem e258 : denFn prog f258 [] = a258 := by kernel_rfl
def a259x0 (v0 v4 : List AV) (v9 b3 : AV) : AC := .ite b3 (.op (.load 2 true v9) fun b4 => .op (.saddr 2 (nth v0 0) (nth v4 1)) fun b5 => .op (.store 2 b5 b4) fun b6 => .op (.bin .add (nth v4 1) (I 1)) fun b7 => .ret .normal [b7]) (.ret .normal [(nth v4 1)])
def a259x1 (v0 v4 : List AV) (v8 v9 : AV) : AC := .op (.store 2 v9 v8) fun b0 => .op (.load 2 true v9) fun b1 => .call (nth v0 1) [b1] fun b2 => .op (.un .not b2) fun b3 => .bind (a259x0 v0 v4 v9 b3) none (fun b4 => .ret .normal [(nth b4 0)]) (fun b4 => [(nth b4 0)])
def a259x2 (v0 v4 : List AV) : AC := .bind (.op (.saddr 2 (nth v0 0) (nth v4 0)) fun v7 => .op (.load 2 true v7) fun v8 => .op (.alloc [(I 0), (I 0)]) fun v9 => (a259x1 v0 v4 v8 v9)) (some 1) (fun v7 => .op (.bin .add (nth v4 0) (I 1)) fun v8 => .ret .normal [v8, (nth v7 0)]) (fun v7 => [(nth v4 0), (nth v7 0)])
def a259x3 (v0 : List AV) (v1 v3 : AV) : AC := .loop [v3, v1] (fun v4 => .op (.len false (nth v0 0)) fun v5 => .op (.bin .lss (nth v4 0) v5) fun v6 => .ite v6 (a259x2 v0 v4) (.ret (.exit 0) [(nth v4 0), (nth v4 1)])) (fun v4 => [(nth v4 0), (nth v4 1)])
def a259x4 (v0 v4 : List AV) : AC := .op (.sslice 2 (nth v0 0) (some (nth v4 1)) none none) fun v5 => .op (.clear 2 [(I 0), (I 0)] v5) fun v6 => .op (.sslice 2 (nth v0 0) none (some (nth v4 1)) none) fun v7 => .ret .ret [v7]
def a259 : List AV → AC := fun v0 => .call (.fn (.func 337) [] []) [(nth v0 0), (nth v0 1)] fun v1 => .op (.bin .eql v1 (I (-1))) fun v2 => .ite v2 (.ret .ret [(nth v0 0)]) (.op (.bin .add v1 (I 1)) fun v3 => .bind (a259x3 v0 v1 v3) (some 0) (fun v4 => (a259x4 v0 v4)) (fun v4 => [Ns]))
theorem e259 : denFn prog f259 [4, 5, 6] = a259 := by kernel_rfl
def a260 : List AV → AC := fun v0 => .op (.box (nth v0 0)) fun v1 => .op (.load 2 true v1) fun v2 => .op (.load 2 true (nth v0 1)) fun v3 => .op (.eq 72 false v2 v3) fun v4 => .ret .ret [v4]
theorem e260 : denFn prog f260 [] = a260 := by kernel_rfl
def a266x0 (v0 : List AV) : AC := zl (nth v0 2) fun v3 => .call v3 [] fun v4 => zs (nth v0 3) v4 fun v5 => zs (nth v0 1) (B true) fun v6 => zm []
def a266x1 (v8 v9 : AV) : AC := .ite v9 (.call (.fn (.method "By") [] []) [v8] fun b0 => zm [b0]) (zm [(U 0)])
def a266x2 (v0 : List AV) (b3 : AV) : AC := .ite b3 (zl (nth v0 4) fun b4 => zl (nth v0 3) fun b5 => .call b4 [b5] fun b6 => zm []) (zm [])
def a266x3 (v0 : List AV) (v5 : AV) (b0 : List AV) : AC := zt v5 (.load 1 false (nth v0 4)) fun b1 => zt v5 (.eq 320 true b1 Nf) fun b2 => zi v5 b2 (B false) fun b3 => .bind (a266x2 v0 b3) none (fun b4 => zr [v5, (nth b0 0)]) (fun b4 => [(B false), (U 0)])
def a266x4 (v0 : List AV) (v4 : AV) : AC := .call (.fn (.method "Step") [] []) [(.iface 316 v4), (nth v0 0)] fun v5 => zl (nth v0 3) fun v6 => .op (.tassert 380 true true (some Ni) (.iface 316 v6)) fun v7 => .op (.extract 0 v7) fun v8 => .op (.extract 1 v7) fun v9 => .bind (a266x1 v8 v9) none (fun b0 => (a266x3 v0 v5 b0)) (fun b0 => [(B false), (U 0)])
def a266 : List AV → AC := fun v0 => zl (nth v0 1) fun v1 => .op (.un .not v1) fun v2 => .bind (.ite v2 (a266x0 v0) (zm [])) none (fun v3 => zl (nth v0 3) fun v4 => (a266x4 v0 v4)) (fun v3 => [(B false), (U 0)])
theorem e266 : denFn prog f266 [9] = a266 := by kernel_rfl
def a267x0 (v0 : List AV) : AC := zn (nth v0 0) fun bb => zf 6 bb fun bc => zs bc (I 13) fun bd => zn (nth v0 0) fun be => zf 5 be fun bf => zs bf Nf fun bg => zm []
def a267x1 (v0 : List AV) (b3 b6 b8 : AV) : AC := zl b8 fun b9 => zc 340 [b3, b6, b9] fun ba => .bind (.ite ba (a267x0 v0) (zm [])) none (fun bb => zr []) (fun bb => [])
def a267x2 (v0 : List AV) (b2 : AV) : AC := zl b2 fun b3 => zn (nth v0 0) fun b4 => zf 3 b4 fun b5 => zl b5 fun b6 => zn (nth v0 0) fun b7 => zf 2 b7 fun b8 => (a267x1 v0 b3 b6 b8)
def a267x3 (v0 : List AV) (v4 v6 : AV) : AC := zs v6 v4 fun v7 => zn (nth v0 0) fun v8 => zf 5 v8 fun v9 => .op (.store 1 v9 (.fn (.func 339) [(nth v0 0)] [])) fun b0 => zn (nth v0 0) fun b1 => zf 4 b1 fun b2 => (a267x2 v0 b2)
def a267 : List AV → AC := fun v0 => zn (nth v0 0) fun v1 => zf 1 v1 fun v2 => zl v2 fun v3 => zc 237 [(nth v0 1), v3] fun v4 => zn (nth v0 0) fun v5 => zf 4 v5 fun v6 => (a267x3 v0 v4 v6)
theorem e267 : denFn prog f267 [] = a267 := by kernel_rfl
def a268x0 (v0 : List AV) : AC := zl (nth v0 2) fun v3 => .call v3 [] fun v4 => zs (nth v0 3) v4 fun v5 => zs (nth v0 1) (B true) fun v6 => zm []
def a268x1 (v8 v9 : AV) : AC := .ite v9 (.call (.fn (.method "By") [] []) [v8] fun b0 => zm [b0]) (zm [(U 0)])
def a268x2 (v0 : List AV) (b3 : AV) : AC := .ite b3 (zl (nth v0 4) fun b4 => zl (nth v0 3) fun b5 => .call b4 [b5] fun b6 => zm []) (zm [])
def a268x3 (v0 : List AV) (v5 : AV) (b0 : List AV) : AC := zt v5 (.load 1 false (nth v0 4)) fun b1 => zt v5 (.eq 328 true b1 Nf) fun b2 => zi v5 b2 (B false) fun b3 => .bind (a268x2 v0 b3) none (fun b4 => zr [v5, (nth b0 0)]) (fun b4 => [(B false), (U 0)])
def a268x4 (v0 : List AV) (v4 : AV) : AC := .call (.fn (.method "Step") [] []) [(.iface 322 v4), (nth v0 0)] fun v5 => zl (nth v0 3) fun v6 => .op (.tassert 380 true true (some Ni) (.iface 322 v6)) fun v7 => .op (.extract 0 v7) fun v8 => .op (.extract 1 v7) fun v9 => .bind (a268x1 v8 v9) none (fun b0 => (a268x3 v0 v5 b0)) (fun b0 => [(B false), (U 0)])
def a268 : List AV → AC := fun v0 => zl (nth v0 1) fun v1 => .op (.un .not v1) fun v2 => .bind (.ite v2 (a268x0 v0) (zm [])) none (fun v3 => zl (nth v0 3) fun v4 => (a268x4 v0 v4)) (fun v3 => [(B false), (U 0)])
theorem e268 : denFn prog f268 [9] = a268 := by kernel_rfl
def a269 : List AV → AC := fun v0 => .op (.box (nth v0 0)) fun v1 => .op (.load 3 true v1) fun v2 => .op (.build [(I 0), (I 0), (I 0), (U 0), (I 0), (I 0), (B false), (B false), (I 0)] [(0, 3, v2), (6, 1, (B true))]) fun v3 => .op (.build [(I 0), (I 0), (I 0), (U 0), (I 0), (I 0), (B false), (B false), (I 0), Nf] [(0, 9, v3), (9, 1, (zF 341))]) fun v4 => .op (.box v4) fun v5 => zr [v5]
theorem e269 : denFn prog f269 [] = a269 := by kernel_rfl
def a270x0 (v0 : List AV) : AC := zn (nth v0 0) fun bf => zf 0 bf fun bg => zc 345 [bg, (I 7)] fun bh => zm []
def a270x1 (v0 : List AV) (b5 bc : AV) : AC := .op (.store 1 bc (.fn (.func 344) [(nth v0 0)] [])) fun bd => zb .neq b5 (I 0) fun be => .bind (.ite be (a270x0 v0) (zm [])) none (fun bf => zr []) (fun bf => [])
def a270x2 (v0 : List AV) (b4 b5 b6 : AV) : AC := zf 0 b6 fun b7 => zf 5 b7 fun b8 => zs b8 b4 fun b9 => zn (nth v0 0) fun ba => zf 0 ba fun bb => zf 8 bb fun bc => (a270x1 v0 b5 bc)
def a270x3 (v0 : List AV) (b0 : AV) : AC := zf 11 b0 fun b1 => zl b1 fun b2 => zc 343 [b2] fun b3 => .op (.extract 0 b3) fun b4 => .op (.extract 1 b3) fun b5 => zn (nth v0 0) fun b6 => (a270x2 v0 b4 b5 b6)
def a270x4 (v0 : List AV) (v6 : AV) : AC := zl v6 fun v7 => zc 342 [v7, (nth v0 1)] fun v8 => .op (.un .not v8) fun v9 => .ite v9 (zr []) (zn (nth v0 0) fun b0 => (a270x3 v0 b0))
def a270 : List AV → AC := fun v0 => zn (nth v0 0) fun v1 => zf 0 v1 fun v2 => zf 8 v2 fun v3 => .op (.store 1 v3 (.fn (.func 270) [(nth v0 0)] [])) fun v4 => zn (nth v0 0) fun v5 => zf 11 v5 fun v6 => (a270x4 v0 v6)
theorem e270 : denFn prog f270 [] = a270 := by kernel_rfl
def a271x0 (v7 : AV) : AC := .op (.eq 335 true v7 Nf) fun v8 => .ite v8 (zr [(I 14)]) (zm [(I 0)])
def a271x1 (v0 : List AV) (v3 : AV) : AC := .op (.un .not v3) fun v4 => .ite v4 (zr [(I 1)]) (zn (nth v0 0) fun v5 => zf 7 v5 fun v6 => zl v6 fun v7 => (a271x0 v7))
def a271 : List AV → AC := fun v0 => .bind (zn (nth v0 0) fun v1 => zf 9 v1 fun v2 => zl v2 fun v3 => (a271x1 v0 v3)) (some 0) (fun v1 => zn (nth v0 0) fun v2 => zf 10 v2 fun v3 => zl v3 fun v4 => zr [v4]) (fun v1 => [(nth v1 0)])
theorem e271 : denFn prog f271 [2] = a271 := by kernel_rfl
def a272 : List AV → AC := fun v0 => .op (.box (nth v0 0)) fun v1 => .op (.box (nth v0 1)) fun v2 => .op (.alloc [Np]) fun v3 => .op (.alloc [(B false)]) fun v4 => zs v4 (B false) fun v5 => zr [(.fn (.func 346) [] [v4, v1, v3, v2])]
theorem e272 : denFn prog f272 [] = a272 := by kernel_rfl
def a275 : List AV → AC := fun v0 => zl (nth v0 1) fun v1 => .call v1 [(nth v0 0)] fun v2 => zr [(B true), (U 0)]
theorem e275 : denFn prog f275 [] = a275 := by kernel_rfl
def a276x0 (v5 v6 : AV) : AC := zl v6 fun v7 => zb .add v5 v7 fun v8 => zr [v8, (B true)]
def a276 : List AV → AC := fun v0 => .op (.box (nth v0 0)) fun v1 => zf 0 v1 fun v2 => zl v2 fun v3 => zn v3 fun v4 => zl v4 fun v5 => zf 1 v1 fun v6 => (a276x0 v5 v6)
theorem e276 : denFn prog f276 [] = a276 := by kernel_rfl
def a277x0 (v2 : List AV) (b2 b4 b5 : AV) : AC := zu b2 (.load 1 false b5) fun b6 => zu b2 (.bin .gtr b4 b6) fun b7 => zi b2 (B true) b7 fun b8 => .ite b8 (zr [(B false)]) (zm [(nth v2 1)])
def a277x1 (v2 : List AV) (v6 v9 : AV) : AC := zf 1 v6 fun b0 => zl b0 fun b1 => zb .lss v9 b1 fun b2 => zu b2 (.faddr 0 v6) fun b3 => zu b2 (.load 1 false b3) fun b4 => zu b2 (.faddr 2 v6) fun b5 => (a277x0 v2 b2 b4 b5)
def a277x2 (v0 v2 : List AV) : AC := .op (.saddr 3 (nth v0 0) (nth v2 0)) fun v4 => .op (.load 3 true v4) fun v5 => .op (.alloc [(I 0), (I 0), (I 0)]) fun v6 => .op (.store 3 v6 v5) fun v7 => zf 0 v6 fun v8 => zl v8 fun v9 => (a277x1 v2 v6 v9)
def a277x3 (v2 v4 : List AV) : AC := zb .add (nth v2 0) (I 1) fun v5 => zm [v5, (nth v4 0)]
def a277x4 (v0 : List AV) (v1 : AV) (v2 : List AV) : AC := zb .lss (nth v2 0) v1 fun v3 => .ite v3 (.bind (a277x2 v0 v2) (some 1) (fun v4 => (a277x3 v2 v4)) (fun v4 => [(nth v2 0), (nth v4 0)])) (.ret (.exit 0) [(nth v2 0), (nth v2 1)])
def a277 : List AV → AC := fun v0 => .op (.len false (nth v0 0)) fun v1 => .bind (.loop [(I 0), (B false)] (fun v2 => (a277x4 v0 v1 v2)) (fun v2 => [(nth v2 0), (nth v2 1)])) (some 0) (fun v2 => zr [(B true)]) (fun v2 => [(nth v2 1)])
theorem e277 : denFn prog f277 [2, 7] = a277 := by kernel_rfl
def a278x0 (v1 v2 v3 : AV) : AC := .op (.build [(I 0), (I 0)] [(0, 1, (I 56)), (1, 1, (I 8))]) fun v4 => .op (.build [(I 0), (I 0), (I 0), (I 0), (I 0), (I 0)] [(0, 2, v2), (2, 2, v3), (4, 2, v4)]) fun v5 => .op (.store 6 v1 v5) fun v6 => zr [v1]
def a278 : List AV → AC := fun v0 => .fin (.op (.alloc [(I 0), (I 0), (I 0), (I 0), (I 0), (I 0)]) fun v1 => .op (.build [(I 0), (I 0)] [(0, 1, (I 0)), (1, 1, (I 16))]) fun v2 => .op (.build [(I 0), (I 0)] [(0, 1, (I 16)), (1, 1, (I 40))]) fun v3 => (a278x0 v1 v2 v3)) fun v1 => .op (.load 6 true (nth v1 0)) fun v2 => zr [v2]
theorem e278 : denFn prog f278 [] = a278 := by kernel_rfl
def a279x0 (v2 : List AV) (v8 v9 : AV) : AC := zl v9 fun b0 => zc 350 [(nth v2 1), v8, b0] fun b1 => zm [b1]
def a279x1 (v0 v2 : List AV) : AC := .op (.saddr 2 (nth v0 0) (nth v2 0)) fun v4 => .op (.load 2 true v4) fun v5 => .op (.alloc [(I 0), (I 0)]) fun v6 => .op (.store 2 v6 v5) fun v7 => .op (.load 2 true v6) fun v8 => .op (.saddr 1 (nth v0 1) (nth v2 0)) fun v9 => (a279x0 v2 v8 v9)
def a279x2 (v2 v4 : List AV) : AC := zb .add (nth v2 0) (I 1) fun v5 => zm [v5, (nth v4 0)]
def a279x3 (v0 : List AV) (v1 : AV) (v2 : List AV) : AC := zb .lss (nth v2 0) v1 fun v3 => .ite v3 (.bind (a279x1 v0 v2) (some 1) (fun v4 => (a279x2 v2 v4)) (fun v4 => [(nth v2 0), (nth v4 0)])) (.ret (.exit 0) [(nth v2 0), (nth v2 1)])
def a279 : List AV → AC := fun v0 => .op (.len false (nth v0 0)) fun v1 => .bind (.loop [(I 0), (U 0)] (fun v2 => (a279x3 v0 v1 v2)) (fun v2 => [(nth v2 0), (nth v2 1)])) (some 0) (fun v2 => zr [(nth v2 1)]) (fun v2 => [(U 0)])
theorem e279 : denFn prog f279 [5, 10] = a279 := by kernel_rfl
def a280 : List AV → AC := fun v0 => .op (.box (nth v0 0)) fun v1 => .op (.box (nth v0 1)) fun v2 => .op (.alloc [Np]) fun v3 => .op (.alloc [(B false)]) fun v4 => zs v4 (B false) fun v5 => zr [(.fn (.func 351) [] [v4, v1, v3, v2])]
theorem e280 : denFn prog f280 [] = a280 := by kernel_rfl
def a281x0 (v0 : List AV) (v4 v5 v6 v8 v9 b1 : AV) : AC := .chk (.load 5 true v4) v5 (.chk (.load 1 false (nth v0 0)) v6 (.chk (.load 1 false v8) v9 (zc 282 [v5, v9, b1] fun b2 => zr [b2])))
def a281x1 (v0 : List AV) (v1 v4 v5 v6 : AV) : AC := zn v6 fun v7 => zf 33 v7 fun v8 => zl v8 fun v9 => zl (nth v0 1) fun b0 => .call b0 [] fun b1 => .chk (.load 1 false (nth v0 0)) v1 (a281x0 v0 v4 v5 v6 v8 v9 b1)
def a281 : List AV → AC := fun v0 => zl (nth v0 0) fun v1 => zn v1 fun v2 => zf 0 v2 fun v3 => zf 15 v3 fun v4 => .op (.load 5 true v4) fun v5 => zl (nth v0 0) fun v6 => (a281x1 v0 v1 v4 v5 v6)
theorem e281 : denFn prog f281 [] = a281 := by kernel_rfl
def a282x0 (v5 v9 : AV) : AC := .ite v9 (zn v5 fun b0 => zf 0 b0 fun b1 => zf 7 b1 fun b2 => .op (.store 1 b2 (.fn (.func 352) [v5] [])) fun b3 => zm []) (zm [])
def a282x1 (v5 v6 : AV) : AC := zf 0 v6 fun v7 => zc 347 [v7] fun v8 => .op (.un .not v8) fun v9 => .bind (a282x0 v5 v9) none (fun b0 => zr [v5]) (fun b0 => [Np])
def a282 : List AV → AC := fun v0 => .op (.box (nth v0 0)) fun v1 => .op (.load 5 true v1) fun v2 => .op (.build [(I 0), (I 0), (I 0), (I 0), (I 0), (I 0), (U 0), Nf, Nf, (B false), (I 0)] [(0, 5, v2), (5, 1, (nth v0 1)), (9, 1, (B true))]) fun v3 => .op (.build [(I 0), (I 0), (I 0), (I 0), (I 0), (I 0), (U 0), Nf, Nf, (B false), (I 0), (U 0)] [(0, 11, v3), (11, 1, (nth v0 2))]) fun v4 => .op (.box v4) fun v5 => zn v5 fun v6 => (a282x1 v5 v6)
theorem e282 : denFn prog f282 [] = a282 := by kernel_rfl
def a283x0 (v0 : List AV) : AC := zl (nth v0 2) fun v3 => .call v3 [] fun v4 => zs (nth v0 3) v4 fun v5 => zs (nth v0 1) (B true) fun v6 => zm []
def a283x1 (v8 v9 : AV) : AC := .ite v9 (.call (.fn (.method "By") [] []) [v8] fun b0 => zm [b0]) (zm [(U 0)])
def a283x2 (v0 : List AV) (b3 : AV) : AC := .ite b3 (zl (nth v0 4) fun b4 => zl (nth v0 3) fun b5 => .call b4 [b5] fun b6 => zm []) (zm [])
def a283x3 (v0 : List AV) (v5 : AV) (b0 : List AV) : AC := zt v5 (.load 1 false (nth v0 4)) fun b1 => zt v5 (.eq 342 true b1 Nf) fun b2 => zi v5 b2 (B false) fun b3 => .bind (a283x2 v0 b3) none (fun b4 => zr [v5, (nth b0 0)]) (fun b4 => [(B false), (U 0)])
def a283x4 (v0 : List AV) (v4 : AV) : AC := .call (.fn (.method "Step") [] []) [(.iface 339 v4), (nth v0 0)] fun v5 => zl (nth v0 3) fun v6 => .op (.tassert 380 true true (some Ni) (.iface 339 v6)) fun v7 => .op (.extract 0 v7) fun v8 => .op (.extract 1 v7) fun v9 => .bind (a283x1 v8 v9) none (fun b0 => (a283x3 v0 v5 b0)) (fun b0 => [(B false), (U 0)])
def a283 : List AV → AC := fun v0 => zl (nth v0 1) fun v1 => .op (.un .not v1) fun v2 => .bind (.ite v2 (a283x0 v0) (zm [])) none (fun v3 => zl (nth v0 3) fun v4 => (a283x4 v0 v4)) (fun v3 => [(B false), (U 0)])
theorem e283 : denFn prog f283 [9] = a283 := by kernel_rfl
def a284x0 (v5 v6 v7 : AV) : AC := zu v5 (.load 1 false v7) fun v8 => zu v5 (.bin .geq v6 v8) fun v9 => zi v5 (B true) v9 fun b0 => .ite b0 (zr [(I 3)]) (zm [(I 0)])
def a284x1 (v0 : List AV) (v1 v3 : AV) : AC := .op (.un .not v3) fun v4 => .ite v4 (zr [(I 2)]) (zb .lss (nth v0 1) (I 0) fun v5 => zu v5 (.mv (nth v0 1)) fun v6 => zu v5 (.faddr 1 v1) fun v7 => (a284x0 v5 v6 v7))
def a284 : List AV → AC := fun v0 => .op (.box (nth v0 0)) fun v1 => .bind (.op (.load 3 true v1) fun v2 => zc 89 [v2] fun v3 => (a284x1 v0 v1 v3)) (some 0) (fun v2 => zr [(I 0)]) (fun v2 => [(nth v2 0)])
theorem e284 : denFn prog f284 [4] = a284 := by kernel_rfl
def a285x0 (b5 : AV) : AC := zf 0 b5 fun b6 => zc 353 [b6, (I 3)] fun b7 => zm []
def a285x1 (v5 b5 : AV) : AC := zf 0 b5 fun b6 => zf 4 b6 fun b7 => .op (.store 1 b7 (.fn (.func 354) [v5] [])) fun b8 => zm []
def a285x2 (v5 b4 : AV) : AC := .bind (.ite b4 (zn v5 fun b5 => (a285x0 b5)) (zn v5 fun b5 => (a285x1 v5 b5))) none (fun b5 => zm []) (fun b5 => [])
def a285x3 (v0 : List AV) (v5 b0 : AV) : AC := .ite b0 (zm []) (zb .lss (nth v0 1) (I 0) fun b1 => zu b1 (.mv (nth v0 1)) fun b2 => zu b1 (.bin .gtr b2 (I 65535)) fun b3 => zi b1 (B true) b3 fun b4 => (a285x2 v5 b4))
def a285x4 (v0 : List AV) (v5 : AV) : AC := zn v5 fun v6 => zf 0 v6 fun v7 => zf 6 v7 fun v8 => zl v8 fun v9 => zb .neq v9 (I 0) fun b0 => .bind (a285x3 v0 v5 b0) none (fun b1 => zm []) (fun b1 => [])
def a285 : List AV → AC := fun v0 => .op (.box (nth v0 0)) fun v1 => .op (.load 4 true v1) fun v2 => zc 307 [v2] fun v3 => .op (.build [(I 0), (I 0), (I 0), (I 0), Nf, (B false), (I 0), (I 0), (U 0), (U 0)] [(0, 7, v3), (7, 1, (nth v0 1))]) fun v4 => .op (.box v4) fun v5 => .bind (a285x4 v0 v5) (some 0) (fun v6 => zr [v5]) (fun v6 => [Np])
theorem e285 : denFn prog f285 [] = a285 := by kernel_rfl
def a286 : List AV → AC := fun v0 => .op (.box (nth v0 0)) fun v1 => .op (.box (nth v0 1)) fun v2 => .op (.alloc [Np]) fun v3 => .op (.alloc [(B false)]) fun v4 => zs v4 (B false) fun v5 => zr [(.fn (.func 355) [] [v4, v1, v3, v2])]
theorem e286 : denFn prog f286 [] = a286 := by kernel_rfl
def a287x0 (v5 v9 b0 b1 b2 : AV) : AC := zn b2 fun b3 => zf 30 b3 fun b4 => zl b4 fun b5 => zc 288 [v5, v9, b0, b1, b5] fun b6 => zr [b6]
def a287x1 (v0 : List AV) (v5 v6 : AV) : AC := zn v6 fun v7 => zf 33 v7 fun v8 => zl v8 fun v9 => zl (nth v0 1) fun b0 => zl (nth v0 2) fun b1 => zl (nth v0 0) fun b2 => (a287x0 v5 v9 b0 b1 b2)
def a287 : List AV → AC := fun v0 => zl (nth v0 0) fun v1 => zn v1 fun v2 => zf 0 v2 fun v3 => zf 15 v3 fun v4 => .op (.load 5 true v4) fun v5 => zl (nth v0 0) fun v6 => (a287x1 v0 v5 v6)
theorem e287 : denFn prog f287 [] = a287 := by kernel_rfl
def a288x0 (b5 : AV) : AC := zf 0 b5 fun b6 => zf 10 b6 fun b7 => zs b7 (I 3) fun b8 => zm []
def a288x1 (v5 b5 : AV) : AC := zf 0 b5 fun b6 => zf 7 b6 fun b7 => .op (.store 1 b7 (.fn (.func 357) [v5] [])) fun b8 => zm []
def a288x2 (v5 b4 : AV) : AC := .bind (.ite b4 (zn v5 fun b5 => (a288x0 b5)) (zn v5 fun b5 => (a288x1 v5 b5))) none (fun b5 => zm []) (fun b5 => [])
def a288x3 (v0 : List AV) (v5 b0 : AV) : AC := .ite b0 (zn v5 fun b1 => zf 0 b1 fun b2 => zf 10 b2 fun b3 => zs b3 (I 2) fun b4 => zm []) (zb .lss (nth v0 4) (I 0) fun b1 => zu b1 (.mv (nth v0 4)) fun b2 => zu b1 (.bin .geq b2 (I 64)) fun b3 => zi b1 (B true) b3 fun b4 => (a288x2 v5 b4))
def a288x4 (v0 : List AV) (v5 v8 : AV) : AC := .ite v8 (zm []) (zc 356 [(nth v0 2), (nth v0 3)] fun v9 => .op (.un .not v9) fun b0 => .bind (a288x3 v0 v5 b0) none (fun b1 => zm []) (fun b1 => []))
def a288x5 (v0 : List AV) (v5 : AV) : AC := zn v5 fun v6 => zf 0 v6 fun v7 => zc 347 [v7] fun v8 => .bind (a288x4 v0 v5 v8) none (fun v9 => zm []) (fun v9 => [])
def a288 : List AV → AC := fun v0 => .op (.box (nth v0 0)) fun v1 => .op (.load 5 true v1) fun v2 => .op (.build [(I 0), (I 0), (I 0), (I 0), (I 0), (I 0), (U 0), Nf, Nf, (B false), (I 0)] [(0, 5, v2), (5, 1, (nth v0 1)), (9, 1, (B true))]) fun v3 => .op (.build [(I 0), (I 0), (I 0), (I 0), (I 0), (I 0), (U 0), Nf, Nf, (B false), (I 0), (I 0), (I 0), (I 0)] [(0, 11, v3), (11, 1, (nth v0 2)), (12, 1, (nth v0 3)), (13, 1, (nth v0 4))]) fun v4 => .op (.box v4) fun v5 => .bind (a288x5 v0 v5) (some 0) (fun v6 => zr [v5]) (fun v6 => [Np])
theorem e288 : denFn prog f288 [] = a288 := by kernel_rfl
def a289 : List AV → AC := fun v0 => .op (.box (nth v0 0)) fun v1 => .op (.box (nth v0 1)) fun v2 => .op (.alloc [Np]) fun v3 => .op (.alloc [(B false)]) fun v4 => zs v4 (B false) fun v5 => zr [(.fn (.func 358) [] [v4, v1, v3, v2])]
theorem e289 : denFn prog f289 [] = a289 := by kernel_rfl
def a290 : List AV → AC := fun v0 => .op (.load 4 true (nth v0 0)) fun v1 => zc 291 [v1] fun v2 => zr [v2]
theorem e290 : denFn prog f290 [] = a290 := by kernel_rfl
def a291x0 (v5 b0 : AV) : AC := .ite b0 (zn v5 fun b1 => zf 0 b1 fun b2 => zf 4 b2 fun b3 => .op (.store 1 b3 (.fn (.func 359) [v5] [])) fun b4 => zm []) (zm [])
def a291x1 (v5 v6 : AV) : AC := zf 0 v6 fun v7 => zf 6 v7 fun v8 => zl v8 fun v9 => zb .eql v9 (I 0) fun b0 => .bind (a291x0 v5 b0) none (fun b1 => zr [v5]) (fun b1 => [Np])
def a291 : List AV → AC := fun v0 => .op (.box (nth v0 0)) fun v1 => .op (.load 4 true v1) fun v2 => zc 307 [v2] fun v3 => .op (.build [(I 0), (I 0), (I 0), (I 0), Nf, (B false), (I 0), (U 0), (I 0)] [(0, 7, v3)]) fun v4 => .op (.box v4) fun v5 => zn v5 fun v6 => (a291x1 v5 v6)
theorem e291 : denFn prog f291 [] = a291 := by kernel_rfl
def a292x0 (v0 : List AV) : AC := zl (nth v0 1) fun b4 => zc 196 [b4, (I 15)] fun b5 => zm []
def a292x1 (v0 : List AV) : AC := zl (nth v0 1) fun bc => zc 196 [bc, (I 5)] fun bd => zm []
def a292x2 (v0 : List AV) (v2 b9 : AV) : AC := zl b9 fun ba => zb .geq v2 ba fun bb => .bind (.ite bb (a292x1 v0) (zm [])) none (fun bc => zm []) (fun bc => [])
def a292x3 (v0 : List AV) (v2 : AV) : AC := zl (nth v0 1) fun b4 => zn b4 fun b5 => zf 0 b5 fun b6 => zf 15 b6 fun b7 => zf 2 b7 fun b8 => zf 2 b8 fun b9 => (a292x2 v0 v2 b9)
def a292x4 (v0 : List AV) (v2 v3 : AV) : AC := zb .neq v3 (I 0) fun b3 => .bind (.ite b3 (a292x0 v0) (a292x3 v0 v2)) none (fun b4 => zm []) (fun b4 => [])
def a292x5 (v0 : List AV) (v2 v3 v5 v6 : AV) : AC := zn v5 fun b0 => zf 35 b0 fun b1 => zs b1 v6 fun b2 => .bind (a292x4 v0 v2 v3) (some 0) (fun b3 => zr []) (fun b3 => [])
def a292x6 (v0 : List AV) (v2 v3 v4 v5 v6 : AV) : AC := .chk (.load 1 false (nth v0 1)) v4 (.chk (.load 1 false (nth v0 1)) v5 (zn v4 fun v7 => zf 33 v7 fun v8 => zs v8 v2 fun v9 => .chk (.load 1 false (nth v0 1)) v5 (a292x5 v0 v2 v3 v5 v6)))
def a292 : List AV → AC := fun v0 => zc 293 [(nth v0 0)] fun v1 => .op (.extract 0 v1) fun v2 => .op (.extract 1 v1) fun v3 => zl (nth v0 1) fun v4 => zl (nth v0 1) fun v5 => zc 294 [(nth v0 0)] fun v6 => (a292x6 v0 v2 v3 v4 v5 v6)
theorem e292 : denFn prog f292 [] = a292 := by kernel_rfl
def a293x0 (v0 : List AV) (v3 v4 : AV) : AC := zn (nth v0 0) fun v5 => zf 0 v5 fun v6 => zc 360 [v6] fun v7 => .chk (.load 1 false v3) v4 (zr [v4, v7])
def a293 : List AV → AC := fun v0 => .op (.eq 418 false (nth v0 0) Np) fun v1 => .ite v1 (zr [(I 0), (I 1)]) (zn (nth v0 0) fun v2 => zf 8 v2 fun v3 => zl v3 fun v4 => (a293x0 v0 v3 v4))
theorem e293 : denFn prog f293 [2, 3] = a293 := by kernel_rfl
def a294 : List AV → AC := fun v0 => .op (.eq 418 false (nth v0 0) Np) fun v1 => .ite v1 (zr [(U 0)]) (zn (nth v0 0) fun v2 => zf 7 v2 fun v3 => zl v3 fun v4 => zr [v4])
theorem e294 : denFn prog f294 [2] = a294 := by kernel_rfl
def a295 : List AV → AC := fun v0 => .op (.box (nth v0 0)) fun v1 => .op (.box (nth v0 1)) fun v2 => .op (.alloc [Np]) fun v3 => .op (.alloc [(B false)]) fun v4 => zs v4 (B false) fun v5 => zr [(.fn (.func 361) [] [v4, v1, v3, v2])]
theorem e295 : denFn prog f295 [] = a295 := by kernel_rfl
def a296x0 (v5 v6 : AV) : AC := zn v6 fun v7 => zf 33 v7 fun v8 => zl v8 fun v9 => zc 297 [v5, v9] fun b0 => zr [b0]
def a296 : List AV → AC := fun v0 => zl (nth v0 0) fun v1 => zn v1 fun v2 => zf 0 v2 fun v3 => zf 15 v3 fun v4 => .op (.load 5 true v4) fun v5 => zl (nth v0 0) fun v6 => (a296x0 v5 v6)
theorem e296 : denFn prog f296 [] = a296 := by kernel_rfl
def a297x0 (v5 v9 : AV) : AC := .ite v9 (zn v5 fun b0 => zf 0 b0 fun b1 => zf 7 b1 fun b2 => .op (.store 1 b2 (.fn (.func 362) [v5] [])) fun b3 => zm []) (zm [])
def a297x1 (v5 v6 : AV) : AC := zf 0 v6 fun v7 => zc 347 [v7] fun v8 => .op (.un .not v8) fun v9 => .bind (a297x0 v5 v9) none (fun b0 => zr [v5]) (fun b0 => [Np])
def a297 : List AV → AC := fun v0 => .op (.box (nth v0 0)) fun v1 => .op (.load 5 true v1) fun v2 => .op (.build [(I 0), (I 0), (I 0), (I 0), (I 0), (I 0), (U 0), Nf, Nf, (B false), (I 0)] [(0, 5, v2), (5, 1, (nth v0 1)), (9, 1, (B true))]) fun v3 => .op (.build [(I 0), (I 0), (I 0), (I 0), (I 0), (I 0), (U 0), Nf, Nf, (B false), (I 0)] [(0, 11, v3)]) fun v4 => .op (.box v4) fun v5 => zn v5 fun v6 => (a297x1 v5 v6)
theorem e297 : denFn prog f297 [] = a297 := by kernel_rfl
def a298x0 (v0 : List AV) (b0 b3 : AV) : AC := zl b3 fun b4 => zc 300 [b4] fun b5 => .chk (.load 1 false (nth v0 2)) b0 (.op (.extract 0 b5) fun b6 => .op (.extract 1 b5) fun b7 => .call b0 [b6, b7] fun b8 => zm [])
def a298x1 (v0 : List AV) (v9 : AV) : AC := .ite v9 (zl (nth v0 2) fun b0 => zl (nth v0 1) fun b1 => zn b1 fun b2 => zf 34 b2 fun b3 => (a298x0 v0 b0 b3)) (zm [])
def a298x2 (v0 : List AV) (v3 v5 : AV) : AC := zf 34 v5 fun v6 => zs v6 v3 fun v7 => zl (nth v0 2) fun v8 => .op (.eq 348 true v8 Nf) fun v9 => .bind (a298x1 v0 v9) none (fun b0 => zr []) (fun b0 => [])
def a298 : List AV → AC := fun v0 => zl (nth v0 1) fun v1 => zc 299 [(nth v0 0)] fun v2 => .chk (.load 1 false (nth v0 1)) v1 (.op (.extract 0 v2) fun v3 => .op (.extract 1 v2) fun v4 => zn v1 fun v5 => (a298x2 v0 v3 v5))
theorem e298 : denFn prog f298 [] = a298 := by kernel_rfl
def a299x0 (v8 : AV) : AC := zl v8 fun v9 => zr [v9, (I 0)]
def a299x1 (v0 : List AV) (v4 : AV) : AC := zb .neq v4 (I 0) fun v5 => .ite v5 (zr [(U 0), v4]) (zn (nth v0 0) fun v6 => zf 0 v6 fun v7 => zf 6 v7 fun v8 => (a299x0 v8))
def a299 : List AV → AC := fun v0 => .op (.eq 423 false (nth v0 0) Np) fun v1 => .ite v1 (zr [(U 0), (I 1)]) (zn (nth v0 0) fun v2 => zf 0 v2 fun v3 => zc 271 [v3] fun v4 => (a299x1 v0 v4))
theorem e299 : denFn prog f299 [2, 3] = a299 := by kernel_rfl
def a300x0 (v1 b1 b8 : AV) : AC := zb .gtr b8 (I 254) fun b9 => .ite b9 (.op (.build [(I 0), (I 0), (I 0)] []) fun ba => .op (.store 3 v1 ba) fun bb => zr [v1, (I 5)]) (.op (.load 3 true b1) fun ba => .op (.store 3 v1 ba) fun bb => zr [v1, (I 0)])
def a300x1 (v0 : List AV) (v1 v9 b0 b1 b2 b3 : AV) : AC := .chk (.load 2 true v9) b0 (zc 363 [(nth v0 0), b0] fun b4 => .op (.build [(I 0), (I 0), (I 0)] [(2, 1, b2), (1, 1, b3), (0, 1, b4)]) fun b5 => .op (.store 3 b1 b5) fun b6 => zf 0 b1 fun b7 => zl b7 fun b8 => (a300x0 v1 b1 b8))
def a300x2 (v0 : List AV) (v1 v6 v7 v8 v9 : AV) : AC := .op (.load 2 true v9) fun b0 => .op (.alloc [(I 0), (I 0), (I 0)]) fun b1 => zc 363 [(nth v0 0), v6] fun b2 => .chk (.load 2 true v7) v8 (.chk (.load 2 true v9) b0 (zc 363 [(nth v0 0), v8] fun b3 => (a300x1 v0 v1 v9 b0 b1 b2 b3)))
def a300x3 (v0 : List AV) (v1 v2 v3 : AV) : AC := .op (.store 6 v3 v2) fun v4 => .op (.paddr 3 2 v3 (I 0)) fun v5 => .op (.load 2 true v5) fun v6 => .op (.paddr 3 2 v3 (I 1)) fun v7 => .op (.load 2 true v7) fun v8 => .op (.paddr 3 2 v3 (I 2)) fun v9 => (a300x2 v0 v1 v6 v7 v8 v9)
def a300 : List AV → AC := fun v0 => .fin (.op (.alloc [(I 0), (I 0), (I 0)]) fun v1 => zc 278 [] fun v2 => .op (.alloc [(I 0), (I 0), (I 0), (I 0), (I 0), (I 0)]) fun v3 => (a300x3 v0 v1 v2 v3)) fun v1 => .op (.load 3 true (nth v1 0)) fun v2 => zr [v2, (nth v1 1)]
theorem e300 : denFn prog f300 [3] = a300 := by kernel_rfl
def a301 : List AV → AC := fun v0 => .op (.box (nth v0 0)) fun v1 => .op (.box (nth v0 1)) fun v2 => .op (.alloc [Np]) fun v3 => .op (.alloc [(B false)]) fun v4 => zs v4 (B false) fun v5 => zr [(.fn (.func 364) [] [v4, v1, v3, v2])]
theorem e301 : denFn prog f301 [] = a301 := by kernel_rfl
def a302x0 (v0 : List AV) (v5 v6 v8 v9 b1 b3 b4 b5 b6 : AV) : AC := .chk (.load 1 false (nth v0 0)) v6 (.chk (.load 1 false v8) v9 (.chk (.load 1 false (nth v0 0)) b1 (.chk (.load 1 false b3) b4 (.chk (.load 1 false (nth v0 2)) b5 (zc 303 [v5, v9, b6, b4, b5] fun b7 => zr [b7])))))
def a302x1 (v0 : List AV) (v1 v4 v5 v6 v8 v9 b0 b1 b2 : AV) : AC := zf 33 b2 fun b3 => zl b3 fun b4 => zl (nth v0 2) fun b5 => .call b0 [] fun b6 => .chk (.load 1 false (nth v0 0)) v1 (.chk (.load 13 true v4) v5 (a302x0 v0 v5 v6 v8 v9 b1 b3 b4 b5 b6))
def a302x2 (v0 : List AV) (v1 v4 v5 v6 : AV) : AC := zn v6 fun v7 => zf 30 v7 fun v8 => zl v8 fun v9 => zl (nth v0 1) fun b0 => zl (nth v0 0) fun b1 => zn b1 fun b2 => (a302x1 v0 v1 v4 v5 v6 v8 v9 b0 b1 b2)
def a302 : List AV → AC := fun v0 => zl (nth v0 0) fun v1 => zn v1 fun v2 => zf 0 v2 fun v3 => zf 0 v3 fun v4 => .op (.load 13 true v4) fun v5 => zl (nth v0 0) fun v6 => (a302x2 v0 v1 v4 v5 v6)
theorem e302 : denFn prog f302 [] = a302 := by kernel_rfl
def a303x0 (v5 : AV) : AC := zn v5 fun bm => zf 0 bm fun bn => zf 18 bn fun bo => zs bo (I 3) fun bp => zm []
def a303x1 (v5 bu bv : AV) : AC := .op (.bslice 1 2 [Ni] [(0, 1, bu), (1, 1, bv)]) fun bw => zn v5 fun bx => zf 0 bx fun bz => zf 16 bz fun c0 => zs c0 bw fun c1 => zm []
def a303x2 (v5 br : AV) : AC := .ite br (zn v5 fun bs => zf 0 bs fun bt => zc 366 [bt] fun bu => zc 367 [v5] fun bv => (a303x1 v5 bu bv)) (zm [])
def a303x3 (v5 bo : AV) : AC := zf 18 bo fun bp => zl bp fun bq => zb .eql bq (I 0) fun br => .bind (a303x2 v5 br) none (fun bs => zr [v5]) (fun bs => [Np])
def a303x4 (v5 b0 bk : AV) : AC := zi b0 bk (B false) fun bl => .bind (.ite bl (a303x0 v5) (zm [])) none (fun bm => zn v5 fun bn => zf 0 bn fun bo => (a303x3 v5 bo)) (fun bm => [Np])
def a303x5 (v0 : List AV) (v1 v5 b0 be : AV) : AC := zt b0 (.mv be) fun bf => zu bf (.mv (nth v0 4)) fun bg => zu bf (.faddr 2 v1) fun bh => zu bf (.load 1 false bh) fun bi => zu bf (.bin .gtr bg bi) fun bj => zt b0 (.pick bf (B true) bj) fun bk => (a303x4 v5 b0 bk)
def a303x6 (v0 : List AV) (v1 v5 b0 b7 b8 : AV) : AC := zu b7 (.bin .gtr b8 (I 65534)) fun b9 => zt b0 (.pick b7 (B true) b9) fun ba => zt b0 (.mv ba) fun bb => zu bb (.mv (nth v0 4)) fun bc => zu bb (.bin .lss bc (I 1)) fun bd => zt b0 (.pick bb (B true) bd) fun be => (a303x5 v0 v1 v5 b0 be)
def a303x7 (v0 : List AV) (v1 v5 b0 b2 : AV) : AC := zt b0 (.mv b2) fun b3 => zu b3 (.mv (nth v0 3)) fun b4 => zu b3 (.bin .lss b4 (I 0)) fun b5 => zt b0 (.pick b3 (B true) b5) fun b6 => zt b0 (.mv b6) fun b7 => zu b7 (.mv (nth v0 3)) fun b8 => (a303x6 v0 v1 v5 b0 b7 b8)
def a303x8 (v0 : List AV) (v1 v5 v6 : AV) : AC := zf 0 v6 fun v7 => zf 18 v7 fun v8 => zl v8 fun v9 => zb .eql v9 (I 0) fun b0 => zt b0 (.mv (nth v0 2)) fun b1 => zt b0 (.bin .eql b1 (U 18446744073709551615)) fun b2 => (a303x7 v0 v1 v5 b0 b2)
def a303 : List AV → AC := fun v0 => .op (.box (nth v0 0)) fun v1 => .op (.load 13 true v1) fun v2 => zc 365 [v2, (nth v0 1)] fun v3 => .op (.build [(I 0), (I 0), (I 0), (I 0), (I 0), (I 0), (I 0), (I 0), (I 0), (I 0), (I 0), (I 0), (I 0), (I 0), (B false), (I 0), Ns, (U 0), (I 0), (U 0), (I 0), (I 0), (I 0), (U 0)] [(0, 19, v3), (19, 1, (nth v0 2)), (20, 1, (nth v0 3)), (21, 1, (nth v0 4))]) fun v4 => .op (.box v4) fun v5 => zn v5 fun v6 => (a303x8 v0 v1 v5 v6)
theorem e303 : denFn prog f303 [] = a303 := by kernel_rfl
def a304x0 (v0 : List AV) (v1 : AV) : AC := zl (nth v0 1) fun v3 => zc 206 [v3, v1] fun v4 => zm []
def a304 : List AV → AC := fun v0 => zc 305 [(nth v0 0)] fun v1 => zb .neq v1 (I 0) fun v2 => .bind (.ite v2 (a304x0 v0 v1) (zm [])) none (fun v3 => zr []) (fun v3 => [])
theorem e304 : denFn prog f304 [] = a304 := by kernel_rfl
def a305 : List AV → AC := fun v0 => .op (.eq 431 false (nth v0 0) Np) fun v1 => .ite v1 (zr [(I 1)]) (zn (nth v0 0) fun v2 => zf 0 v2 fun v3 => zc 368 [v3] fun v4 => zr [v4])
theorem e305 : denFn prog f305 [2] = a305 := by kernel_rfl
def a306x0 (v0 : List AV) : AC := zl (nth v0 2) fun v3 => .call v3 [] fun v4 => zs (nth v0 3) v4 fun v5 => zs (nth v0 1) (B true) fun v6 => zm []
def a306x1 (v8 v9 : AV) : AC := .ite v9 (.call (.fn (.method "By") [] []) [v8] fun b0 => zm [b0]) (zm [(U 0)])
def a306x2 (v0 : List AV) (b3 : AV) : AC := .ite b3 (zl (nth v0 4) fun b4 => zl (nth v0 3) fun b5 => .call b4 [b5] fun b6 => zm []) (zm [])
def a306x3 (v0 : List AV) (v5 : AV) (b0 : List AV) : AC := zt v5 (.load 1 false (nth v0 4)) fun b1 => zt v5 (.eq 435 true b1 Nf) fun b2 => zi v5 b2 (B false) fun b3 => .bind (a306x2 v0 b3) none (fun b4 => zr [v5, (nth b0 0)]) (fun b4 => [(B false), (U 0)])
def a306x4 (v0 : List AV) (v4 : AV) : AC := .call (.fn (.method "Step") [] []) [(.iface 351 v4), (nth v0 0)] fun v5 => zl (nth v0 3) fun v6 => .op (.tassert 380 true true (some Ni) (.iface 351 v6)) fun v7 => .op (.extract 0 v7) fun v8 => .op (.extract 1 v7) fun v9 => .bind (a306x1 v8 v9) none (fun b0 => (a306x3 v0 v5 b0)) (fun b0 => [(B false), (U 0)])
def a306 : List AV → AC := fun v0 => zl (nth v0 1) fun v1 => .op (.un .not v1) fun v2 => .bind (.ite v2 (a306x0 v0) (zm [])) none (fun v3 => zl (nth v0 3) fun v4 => (a306x4 v0 v4)) (fun v3 => [(B false), (U 0)])
theorem e306 : denFn prog f306 [9] = a306 := by kernel_rfl
end
end Tryz
end Go.Proofs
