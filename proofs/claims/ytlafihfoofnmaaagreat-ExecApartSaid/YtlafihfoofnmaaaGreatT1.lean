/- The bodies of the functions of this cut, gone through ahead, and that each is its function. No condition. -/
import Derived.Test.YtlafihfoofnmaaaGreatT0
set_option linter.unusedVariables false
set_option maxRecDepth 100000
namespace Go.Proofs
open Go.Abs
namespace Tryz
noncomputable section
def a162x0 (v5 v8 b2 : AV) : AC := .op (.load 1 false b2) fun b3 => .op (.bin .geq v8 b3) fun b4 => .ite b4 (.ret .ret [(I (-1))]) (.op (.faddr 0 v5) fun b5 => .op (.load 1 false b5) fun b6 => .ret .ret [b6])
def a162x1 (v1 v5 : AV) : AC := .op (.faddr 0 v5) fun v7 => .op (.load 1 false v7) fun v8 => .op (.faddr 3 v1) fun v9 => .op (.faddr 0 v9) fun b0 => .op (.faddr 0 b0) fun b1 => .op (.faddr 2 b1) fun b2 => (a162x0 v5 v8 b2)
def a162 : List AV → AC := fun v0 => .op (.box (nth v0 0)) fun v1 => .call (.fn (.func 236) [] []) [(nth v0 1)] fun v2 => .op (.extract 0 v2) fun v3 => .op (.extract 1 v2) fun v4 => .op (.alloc [(I 0), (I 0)]) fun v5 => .op (.store 2 v5 v3) fun v6 => (a162x1 v1 v5)
theorem e162 : denFn prog f162 [4] = a162 := by kernel_rfl
def a163 : List AV → AC := fun v0 => zl (nth v0 1) fun v1 => zc 134 [v1, (.fn (.func 164) [] [(nth v0 1)])] fun v2 => .call (nth v0 0) [v2] fun v3 => zr []
theorem e163 : denFn prog f163 [] = a163 := by kernel_rfl
def a164x0 (v0 : List AV) (v2 v4 : AV) : AC := .chk (.load 1 false (nth v0 1)) v2 (zc 49 [v2, v4] fun v5 => zr [])
def a164 : List AV → AC := fun v0 => zb .geq (nth v0 0) (I 0) fun v1 => .ite v1 (zl (nth v0 1) fun v2 => zc 100 [v2, (I 11)] fun v3 => zr []) (zl (nth v0 1) fun v2 => zl (nth v0 1) fun v3 => zc 136 [v3] fun v4 => (a164x0 v0 v2 v4))
theorem e164 : denFn prog f164 [] = a164 := by kernel_rfl
def a165x0 (v0 : List AV) : AC := zl (nth v0 2) fun v3 => .call v3 [] fun v4 => zs (nth v0 3) v4 fun v5 => zs (nth v0 1) (B true) fun v6 => zm []
def a165x1 (v8 v9 : AV) : AC := .ite v9 (.call (.fn (.method "By") [] []) [v8] fun b0 => zm [b0]) (zm [(U 0)])
def a165x2 (v0 : List AV) (b3 : AV) : AC := .ite b3 (zl (nth v0 4) fun b4 => zl (nth v0 3) fun b5 => .call b4 [b5] fun b6 => zm []) (zm [])
def a165x3 (v0 : List AV) (v5 : AV) (b0 : List AV) : AC := zt v5 (.load 1 false (nth v0 4)) fun b1 => zt v5 (.eq 192 true b1 Nf) fun b2 => zi v5 b2 (B false) fun b3 => .bind (a165x2 v0 b3) none (fun b4 => zr [v5, (nth b0 0)]) (fun b4 => [(B false), (U 0)])
def a165x4 (v0 : List AV) (v4 : AV) : AC := .call (.fn (.method "Step") [] []) [(.iface 188 v4), (nth v0 0)] fun v5 => zl (nth v0 3) fun v6 => .op (.tassert 263 true true (some Ni) (.iface 188 v6)) fun v7 => .op (.extract 0 v7) fun v8 => .op (.extract 1 v7) fun v9 => .bind (a165x1 v8 v9) none (fun b0 => (a165x3 v0 v5 b0)) (fun b0 => [(B false), (U 0)])
def a165 : List AV → AC := fun v0 => zl (nth v0 1) fun v1 => .op (.un .not v1) fun v2 => .bind (.ite v2 (a165x0 v0) (zm [])) none (fun v3 => zl (nth v0 3) fun v4 => (a165x4 v0 v4)) (fun v3 => [(B false), (U 0)])
theorem e165 : denFn prog f165 [9] = a165 := by kernel_rfl
def a166x0 (v0 : List AV) : AC := zn (nth v0 0) fun bb => zf 6 bb fun bc => zs bc (I 13) fun bd => zn (nth v0 0) fun be => zf 5 be fun bf => zs bf Nf fun bg => zm []
def a166x1 (v0 : List AV) (b3 b6 b8 : AV) : AC := zl b8 fun b9 => zc 238 [b3, b6, b9] fun ba => .bind (.ite ba (a166x0 v0) (zm [])) none (fun bb => zr []) (fun bb => [])
def a166x2 (v0 : List AV) (b2 : AV) : AC := zl b2 fun b3 => zn (nth v0 0) fun b4 => zf 3 b4 fun b5 => zl b5 fun b6 => zn (nth v0 0) fun b7 => zf 2 b7 fun b8 => (a166x1 v0 b3 b6 b8)
def a166x3 (v0 : List AV) (v4 v6 : AV) : AC := zs v6 v4 fun v7 => zn (nth v0 0) fun v8 => zf 5 v8 fun v9 => .op (.store 1 v9 (.fn (.func 237) [(nth v0 0)] [])) fun b0 => zn (nth v0 0) fun b1 => zf 4 b1 fun b2 => (a166x2 v0 b2)
def a166 : List AV → AC := fun v0 => zn (nth v0 0) fun v1 => zf 1 v1 fun v2 => zl v2 fun v3 => zc 132 [(nth v0 1), v3] fun v4 => zn (nth v0 0) fun v5 => zf 4 v5 fun v6 => (a166x3 v0 v4 v6)
theorem e166 : denFn prog f166 [] = a166 := by kernel_rfl
def a167x0 (v0 : List AV) : AC := zl (nth v0 2) fun v3 => .call v3 [] fun v4 => zs (nth v0 3) v4 fun v5 => zs (nth v0 1) (B true) fun v6 => zm []
def a167x1 (v8 v9 : AV) : AC := .ite v9 (.call (.fn (.method "By") [] []) [v8] fun b0 => zm [b0]) (zm [(U 0)])
def a167x2 (v0 : List AV) (b3 : AV) : AC := .ite b3 (zl (nth v0 4) fun b4 => zl (nth v0 3) fun b5 => .call b4 [b5] fun b6 => zm []) (zm [])
def a167x3 (v0 : List AV) (v5 : AV) (b0 : List AV) : AC := zt v5 (.load 1 false (nth v0 4)) fun b1 => zt v5 (.eq 200 true b1 Nf) fun b2 => zi v5 b2 (B false) fun b3 => .bind (a167x2 v0 b3) none (fun b4 => zr [v5, (nth b0 0)]) (fun b4 => [(B false), (U 0)])
def a167x4 (v0 : List AV) (v4 : AV) : AC := .call (.fn (.method "Step") [] []) [(.iface 194 v4), (nth v0 0)] fun v5 => zl (nth v0 3) fun v6 => .op (.tassert 263 true true (some Ni) (.iface 194 v6)) fun v7 => .op (.extract 0 v7) fun v8 => .op (.extract 1 v7) fun v9 => .bind (a167x1 v8 v9) none (fun b0 => (a167x3 v0 v5 b0)) (fun b0 => [(B false), (U 0)])
def a167 : List AV → AC := fun v0 => zl (nth v0 1) fun v1 => .op (.un .not v1) fun v2 => .bind (.ite v2 (a167x0 v0) (zm [])) none (fun v3 => zl (nth v0 3) fun v4 => (a167x4 v0 v4)) (fun v3 => [(B false), (U 0)])
theorem e167 : denFn prog f167 [9] = a167 := by kernel_rfl
def a168 : List AV → AC := fun v0 => .op (.box (nth v0 0)) fun v1 => .op (.load 3 true v1) fun v2 => .op (.build [(I 0), (I 0), (I 0), (U 0), (I 0), (I 0), (B false), (B false), (I 0)] [(0, 3, v2), (6, 1, (B true))]) fun v3 => .op (.build [(I 0), (I 0), (I 0), (U 0), (I 0), (I 0), (B false), (B false), (I 0), Nf] [(0, 9, v3), (9, 1, (zF 239))]) fun v4 => .op (.box v4) fun v5 => zr [v5]
theorem e168 : denFn prog f168 [] = a168 := by kernel_rfl
def a169x0 (v0 : List AV) : AC := zn (nth v0 0) fun bf => zf 0 bf fun bg => zc 243 [bg, (I 7)] fun bh => zm []
def a169x1 (v0 : List AV) (b5 bc : AV) : AC := .op (.store 1 bc (.fn (.func 242) [(nth v0 0)] [])) fun bd => zb .neq b5 (I 0) fun be => .bind (.ite be (a169x0 v0) (zm [])) none (fun bf => zr []) (fun bf => [])
def a169x2 (v0 : List AV) (b4 b5 b6 : AV) : AC := zf 0 b6 fun b7 => zf 5 b7 fun b8 => zs b8 b4 fun b9 => zn (nth v0 0) fun ba => zf 0 ba fun bb => zf 8 bb fun bc => (a169x1 v0 b5 bc)
def a169x3 (v0 : List AV) (b0 : AV) : AC := zf 11 b0 fun b1 => zl b1 fun b2 => zc 241 [b2] fun b3 => .op (.extract 0 b3) fun b4 => .op (.extract 1 b3) fun b5 => zn (nth v0 0) fun b6 => (a169x2 v0 b4 b5 b6)
def a169x4 (v0 : List AV) (v6 : AV) : AC := zl v6 fun v7 => zc 240 [v7, (nth v0 1)] fun v8 => .op (.un .not v8) fun v9 => .ite v9 (zr []) (zn (nth v0 0) fun b0 => (a169x3 v0 b0))
def a169 : List AV → AC := fun v0 => zn (nth v0 0) fun v1 => zf 0 v1 fun v2 => zf 8 v2 fun v3 => .op (.store 1 v3 (.fn (.func 169) [(nth v0 0)] [])) fun v4 => zn (nth v0 0) fun v5 => zf 11 v5 fun v6 => (a169x4 v0 v6)
theorem e169 : denFn prog f169 [] = a169 := by kernel_rfl
def a170x0 (v7 : AV) : AC := .op (.eq 205 true v7 Nf) fun v8 => .ite v8 (zr [(I 14)]) (zm [(I 0)])
def a170x1 (v0 : List AV) (v3 : AV) : AC := .op (.un .not v3) fun v4 => .ite v4 (zr [(I 1)]) (zn (nth v0 0) fun v5 => zf 7 v5 fun v6 => zl v6 fun v7 => (a170x0 v7))
def a170 : List AV → AC := fun v0 => .bind (zn (nth v0 0) fun v1 => zf 9 v1 fun v2 => zl v2 fun v3 => (a170x1 v0 v3)) (some 0) (fun v1 => zn (nth v0 0) fun v2 => zf 10 v2 fun v3 => zl v3 fun v4 => zr [v4]) (fun v1 => [(nth v1 0)])
theorem e170 : denFn prog f170 [2] = a170 := by kernel_rfl
def a171 : List AV → AC := fun v0 => .op (.box (nth v0 0)) fun v1 => .op (.box (nth v0 1)) fun v2 => .op (.alloc [Np]) fun v3 => .op (.alloc [(B false)]) fun v4 => zs v4 (B false) fun v5 => zr [(.fn (.func 244) [] [v4, v1, v3, v2])]
theorem e171 : denFn prog f171 [] = a171 := by kernel_rfl
def a172x0 (v5 v6 : AV) : AC := zn v6 fun v7 => zf 33 v7 fun v8 => zl v8 fun v9 => zc 173 [v5, v9] fun b0 => zr [b0]
def a172 : List AV → AC := fun v0 => zl (nth v0 0) fun v1 => zn v1 fun v2 => zf 0 v2 fun v3 => zf 15 v3 fun v4 => .op (.load 5 true v4) fun v5 => zl (nth v0 0) fun v6 => (a172x0 v5 v6)
theorem e172 : denFn prog f172 [] = a172 := by kernel_rfl
def a173x0 (v5 b2 b3 : AV) : AC := zf 11 b3 fun b4 => zs b4 b2 fun b5 => zn v5 fun b6 => zf 0 b6 fun b7 => zf 7 b7 fun b8 => .op (.store 1 b8 (.fn (.func 247) [v5] [])) fun b9 => zm []
def a173x1 (v0 : List AV) (v1 v5 v9 : AV) : AC := .ite v9 (zf 2 v1 fun b0 => .op (.load 3 true b0) fun b1 => zc 246 [b1, (nth v0 1)] fun b2 => zn v5 fun b3 => (a173x0 v5 b2 b3)) (zm [])
def a173x2 (v0 : List AV) (v1 v5 v6 : AV) : AC := zf 0 v6 fun v7 => zc 245 [v7] fun v8 => .op (.un .not v8) fun v9 => .bind (a173x1 v0 v1 v5 v9) none (fun b0 => zr [v5]) (fun b0 => [Np])
def a173 : List AV → AC := fun v0 => .op (.box (nth v0 0)) fun v1 => .op (.load 5 true v1) fun v2 => .op (.build [(I 0), (I 0), (I 0), (I 0), (I 0), (I 0), (U 0), Nf, Nf, (B false), (I 0)] [(0, 5, v2), (5, 1, (nth v0 1)), (9, 1, (B true))]) fun v3 => .op (.build [(I 0), (I 0), (I 0), (I 0), (I 0), (I 0), (U 0), Nf, Nf, (B false), (I 0), Np] [(0, 11, v3)]) fun v4 => .op (.box v4) fun v5 => zn v5 fun v6 => (a173x2 v0 v1 v5 v6)
theorem e173 : denFn prog f173 [] = a173 := by kernel_rfl
def a174 : List AV → AC := fun v0 => zl (nth v0 1) fun v1 => .call v1 [(nth v0 0)] fun v2 => zr [(B true), (U 0)]
theorem e174 : denFn prog f174 [] = a174 := by kernel_rfl
def a175x0 (v5 v6 : AV) : AC := zl v6 fun v7 => zb .add v5 v7 fun v8 => zr [v8, (B true)]
def a175 : List AV → AC := fun v0 => .op (.box (nth v0 0)) fun v1 => zf 0 v1 fun v2 => zl v2 fun v3 => zn v3 fun v4 => zl v4 fun v5 => zf 1 v1 fun v6 => (a175x0 v5 v6)
theorem e175 : denFn prog f175 [] = a175 := by kernel_rfl
def a176x0 (v2 : List AV) (b2 b4 b5 : AV) : AC := .gop b2 false (.load 1 false b5) fun b6 => .gop b2 false (.bin .gtr b4 b6) fun b7 => .op (.pick b2 (B true) b7) fun b8 => .ite b8 (.ret .ret [(B false)]) (.ret .normal [(nth v2 1)])
def a176x1 (v2 : List AV) (v6 v9 : AV) : AC := .op (.faddr 1 v6) fun b0 => .op (.load 1 false b0) fun b1 => .op (.bin .lss v9 b1) fun b2 => .gop b2 false (.faddr 0 v6) fun b3 => .gop b2 false (.load 1 false b3) fun b4 => .gop b2 false (.faddr 2 v6) fun b5 => (a176x0 v2 b2 b4 b5)
def a176x2 (v0 v2 : List AV) : AC := .op (.saddr 3 (nth v0 0) (nth v2 0)) fun v4 => .op (.load 3 true v4) fun v5 => .op (.alloc [(I 0), (I 0), (I 0)]) fun v6 => .op (.store 3 v6 v5) fun v7 => .op (.faddr 0 v6) fun v8 => .op (.load 1 false v8) fun v9 => (a176x1 v2 v6 v9)
def a176x3 (v2 v4 : List AV) : AC := .op (.bin .add (nth v2 0) (I 1)) fun v5 => .ret .normal [v5, (nth v4 0)]
def a176x4 (v0 : List AV) (v1 : AV) (v2 : List AV) : AC := .op (.bin .lss (nth v2 0) v1) fun v3 => .ite v3 (.bind (a176x2 v0 v2) (some 1) (fun v4 => (a176x3 v2 v4)) (fun v4 => [(nth v2 0), (nth v4 0)])) (.ret (.exit 0) [(nth v2 0), (nth v2 1)])
def a176 : List AV → AC := fun v0 => .op (.len false (nth v0 0)) fun v1 => .bind (.loop [(I 0), (B false)] (fun v2 => (a176x4 v0 v1 v2)) (fun v2 => [(nth v2 0), (nth v2 1)])) (some 0) (fun v2 => .ret .ret [(B true)]) (fun v2 => [(nth v2 1)])
theorem e176 : denFn prog f176 [2, 7] = a176 := by kernel_rfl
def a177x0 (v2 : List AV) (v8 v9 : AV) : AC := .op (.load 1 false v9) fun b0 => .call (.fn (.func 248) [] []) [(nth v2 1), v8, b0] fun b1 => .ret .normal [b1]
def a177x1 (v0 v2 : List AV) : AC := .op (.saddr 2 (nth v0 0) (nth v2 0)) fun v4 => .op (.load 2 true v4) fun v5 => .op (.alloc [(I 0), (I 0)]) fun v6 => .op (.store 2 v6 v5) fun v7 => .op (.load 2 true v6) fun v8 => .op (.saddr 1 (nth v0 1) (nth v2 0)) fun v9 => (a177x0 v2 v8 v9)
def a177x2 (v2 v4 : List AV) : AC := .op (.bin .add (nth v2 0) (I 1)) fun v5 => .ret .normal [v5, (nth v4 0)]
def a177x3 (v0 : List AV) (v1 : AV) (v2 : List AV) : AC := .op (.bin .lss (nth v2 0) v1) fun v3 => .ite v3 (.bind (a177x1 v0 v2) (some 1) (fun v4 => (a177x2 v2 v4)) (fun v4 => [(nth v2 0), (nth v4 0)])) (.ret (.exit 0) [(nth v2 0), (nth v2 1)])
def a177 : List AV → AC := fun v0 => .op (.len false (nth v0 0)) fun v1 => .bind (.loop [(I 0), (U 0)] (fun v2 => (a177x3 v0 v1 v2)) (fun v2 => [(nth v2 0), (nth v2 1)])) (some 0) (fun v2 => .ret .ret [(nth v2 1)]) (fun v2 => [(U 0)])
theorem e177 : denFn prog f177 [5, 10] = a177 := by kernel_rfl
def a178 : List AV → AC := fun v0 => .op (.box (nth v0 0)) fun v1 => .op (.box (nth v0 1)) fun v2 => .op (.alloc [Np]) fun v3 => .op (.alloc [(B false)]) fun v4 => zs v4 (B false) fun v5 => zr [(.fn (.func 249) [] [v4, v1, v3, v2])]
theorem e178 : denFn prog f178 [] = a178 := by kernel_rfl
def a179x0 (v0 : List AV) (v4 v5 v6 v8 v9 b1 : AV) : AC := .chk (.load 5 true v4) v5 (.chk (.load 1 false (nth v0 0)) v6 (.chk (.load 1 false v8) v9 (zc 180 [v5, v9, b1] fun b2 => zr [b2])))
def a179x1 (v0 : List AV) (v1 v4 v5 v6 : AV) : AC := zn v6 fun v7 => zf 33 v7 fun v8 => zl v8 fun v9 => zl (nth v0 1) fun b0 => .call b0 [] fun b1 => .chk (.load 1 false (nth v0 0)) v1 (a179x0 v0 v4 v5 v6 v8 v9 b1)
def a179 : List AV → AC := fun v0 => zl (nth v0 0) fun v1 => zn v1 fun v2 => zf 0 v2 fun v3 => zf 15 v3 fun v4 => .op (.load 5 true v4) fun v5 => zl (nth v0 0) fun v6 => (a179x1 v0 v1 v4 v5 v6)
theorem e179 : denFn prog f179 [] = a179 := by kernel_rfl
def a180x0 (v5 v9 : AV) : AC := .ite v9 (zn v5 fun b0 => zf 0 b0 fun b1 => zf 7 b1 fun b2 => .op (.store 1 b2 (.fn (.func 250) [v5] [])) fun b3 => zm []) (zm [])
def a180x1 (v5 v6 : AV) : AC := zf 0 v6 fun v7 => zc 245 [v7] fun v8 => .op (.un .not v8) fun v9 => .bind (a180x0 v5 v9) none (fun b0 => zr [v5]) (fun b0 => [Np])
def a180 : List AV → AC := fun v0 => .op (.box (nth v0 0)) fun v1 => .op (.load 5 true v1) fun v2 => .op (.build [(I 0), (I 0), (I 0), (I 0), (I 0), (I 0), (U 0), Nf, Nf, (B false), (I 0)] [(0, 5, v2), (5, 1, (nth v0 1)), (9, 1, (B true))]) fun v3 => .op (.build [(I 0), (I 0), (I 0), (I 0), (I 0), (I 0), (U 0), Nf, Nf, (B false), (I 0), (U 0)] [(0, 11, v3), (11, 1, (nth v0 2))]) fun v4 => .op (.box v4) fun v5 => zn v5 fun v6 => (a180x1 v5 v6)
theorem e180 : denFn prog f180 [] = a180 := by kernel_rfl
def a181x0 (v0 : List AV) : AC := zl (nth v0 2) fun v3 => .call v3 [] fun v4 => zs (nth v0 3) v4 fun v5 => zs (nth v0 1) (B true) fun v6 => zm []
def a181x1 (v8 v9 : AV) : AC := .ite v9 (.call (.fn (.method "By") [] []) [v8] fun b0 => zm [b0]) (zm [(U 0)])
def a181x2 (v0 : List AV) (b3 : AV) : AC := .ite b3 (zl (nth v0 4) fun b4 => zl (nth v0 3) fun b5 => .call b4 [b5] fun b6 => zm []) (zm [])
def a181x3 (v0 : List AV) (v5 : AV) (b0 : List AV) : AC := zt v5 (.load 1 false (nth v0 4)) fun b1 => zt v5 (.eq 212 true b1 Nf) fun b2 => zi v5 b2 (B false) fun b3 => .bind (a181x2 v0 b3) none (fun b4 => zr [v5, (nth b0 0)]) (fun b4 => [(B false), (U 0)])
def a181x4 (v0 : List AV) (v4 : AV) : AC := .call (.fn (.method "Step") [] []) [(.iface 209 v4), (nth v0 0)] fun v5 => zl (nth v0 3) fun v6 => .op (.tassert 263 true true (some Ni) (.iface 209 v6)) fun v7 => .op (.extract 0 v7) fun v8 => .op (.extract 1 v7) fun v9 => .bind (a181x1 v8 v9) none (fun b0 => (a181x3 v0 v5 b0)) (fun b0 => [(B false), (U 0)])
def a181 : List AV → AC := fun v0 => zl (nth v0 1) fun v1 => .op (.un .not v1) fun v2 => .bind (.ite v2 (a181x0 v0) (zm [])) none (fun v3 => zl (nth v0 3) fun v4 => (a181x4 v0 v4)) (fun v3 => [(B false), (U 0)])
theorem e181 : denFn prog f181 [9] = a181 := by kernel_rfl
def a182x0 (v5 v6 v7 : AV) : AC := zu v5 (.load 1 false v7) fun v8 => zu v5 (.bin .geq v6 v8) fun v9 => zi v5 (B true) v9 fun b0 => .ite b0 (zr [(I 3)]) (zm [(I 0)])
def a182x1 (v0 : List AV) (v1 v3 : AV) : AC := .op (.un .not v3) fun v4 => .ite v4 (zr [(I 2)]) (zb .lss (nth v0 1) (I 0) fun v5 => zu v5 (.mv (nth v0 1)) fun v6 => zu v5 (.faddr 1 v1) fun v7 => (a182x0 v5 v6 v7))
def a182 : List AV → AC := fun v0 => .op (.box (nth v0 0)) fun v1 => .bind (.op (.load 3 true v1) fun v2 => zc 68 [v2] fun v3 => (a182x1 v0 v1 v3)) (some 0) (fun v2 => zr [(I 0)]) (fun v2 => [(nth v2 0)])
theorem e182 : denFn prog f182 [4] = a182 := by kernel_rfl
def a183x0 (b5 : AV) : AC := zf 0 b5 fun b6 => zc 251 [b6, (I 3)] fun b7 => zm []
def a183x1 (v5 b5 : AV) : AC := zf 0 b5 fun b6 => zf 4 b6 fun b7 => .op (.store 1 b7 (.fn (.func 252) [v5] [])) fun b8 => zm []
def a183x2 (v5 b4 : AV) : AC := .bind (.ite b4 (zn v5 fun b5 => (a183x0 b5)) (zn v5 fun b5 => (a183x1 v5 b5))) none (fun b5 => zm []) (fun b5 => [])
def a183x3 (v0 : List AV) (v5 b0 : AV) : AC := .ite b0 (zm []) (zb .lss (nth v0 1) (I 0) fun b1 => zu b1 (.mv (nth v0 1)) fun b2 => zu b1 (.bin .gtr b2 (I 65535)) fun b3 => zi b1 (B true) b3 fun b4 => (a183x2 v5 b4))
def a183x4 (v0 : List AV) (v5 : AV) : AC := zn v5 fun v6 => zf 0 v6 fun v7 => zf 6 v7 fun v8 => zl v8 fun v9 => zb .neq v9 (I 0) fun b0 => .bind (a183x3 v0 v5 b0) none (fun b1 => zm []) (fun b1 => [])
def a183 : List AV → AC := fun v0 => .op (.box (nth v0 0)) fun v1 => .op (.load 4 true v1) fun v2 => zc 204 [v2] fun v3 => .op (.build [(I 0), (I 0), (I 0), (I 0), Nf, (B false), (I 0), (I 0), (U 0), (U 0)] [(0, 7, v3), (7, 1, (nth v0 1))]) fun v4 => .op (.box v4) fun v5 => .bind (a183x4 v0 v5) (some 0) (fun v6 => zr [v5]) (fun v6 => [Np])
theorem e183 : denFn prog f183 [] = a183 := by kernel_rfl
def a184 : List AV → AC := fun v0 => .op (.box (nth v0 0)) fun v1 => .op (.box (nth v0 1)) fun v2 => .op (.alloc [Np]) fun v3 => .op (.alloc [(B false)]) fun v4 => zs v4 (B false) fun v5 => zr [(.fn (.func 253) [] [v4, v1, v3, v2])]
theorem e184 : denFn prog f184 [] = a184 := by kernel_rfl
def a185x0 (v5 v9 b0 b1 b2 : AV) : AC := zn b2 fun b3 => zf 30 b3 fun b4 => zl b4 fun b5 => zc 186 [v5, v9, b0, b1, b5] fun b6 => zr [b6]
def a185x1 (v0 : List AV) (v5 v6 : AV) : AC := zn v6 fun v7 => zf 33 v7 fun v8 => zl v8 fun v9 => zl (nth v0 1) fun b0 => zl (nth v0 2) fun b1 => zl (nth v0 0) fun b2 => (a185x0 v5 v9 b0 b1 b2)
def a185 : List AV → AC := fun v0 => zl (nth v0 0) fun v1 => zn v1 fun v2 => zf 0 v2 fun v3 => zf 15 v3 fun v4 => .op (.load 5 true v4) fun v5 => zl (nth v0 0) fun v6 => (a185x1 v0 v5 v6)
theorem e185 : denFn prog f185 [] = a185 := by kernel_rfl
def a186x0 (b5 : AV) : AC := zf 0 b5 fun b6 => zf 10 b6 fun b7 => zs b7 (I 3) fun b8 => zm []
def a186x1 (v5 b5 : AV) : AC := zf 0 b5 fun b6 => zf 7 b6 fun b7 => .op (.store 1 b7 (.fn (.func 255) [v5] [])) fun b8 => zm []
def a186x2 (v5 b4 : AV) : AC := .bind (.ite b4 (zn v5 fun b5 => (a186x0 b5)) (zn v5 fun b5 => (a186x1 v5 b5))) none (fun b5 => zm []) (fun b5 => [])
def a186x3 (v0 : List AV) (v5 b0 : AV) : AC := .ite b0 (zn v5 fun b1 => zf 0 b1 fun b2 => zf 10 b2 fun b3 => zs b3 (I 2) fun b4 => zm []) (zb .lss (nth v0 4) (I 0) fun b1 => zu b1 (.mv (nth v0 4)) fun b2 => zu b1 (.bin .geq b2 (I 64)) fun b3 => zi b1 (B true) b3 fun b4 => (a186x2 v5 b4))
def a186x4 (v0 : List AV) (v5 v8 : AV) : AC := .ite v8 (zm []) (zc 254 [(nth v0 2), (nth v0 3)] fun v9 => .op (.un .not v9) fun b0 => .bind (a186x3 v0 v5 b0) none (fun b1 => zm []) (fun b1 => []))
def a186x5 (v0 : List AV) (v5 : AV) : AC := zn v5 fun v6 => zf 0 v6 fun v7 => zc 245 [v7] fun v8 => .bind (a186x4 v0 v5 v8) none (fun v9 => zm []) (fun v9 => [])
def a186 : List AV → AC := fun v0 => .op (.box (nth v0 0)) fun v1 => .op (.load 5 true v1) fun v2 => .op (.build [(I 0), (I 0), (I 0), (I 0), (I 0), (I 0), (U 0), Nf, Nf, (B false), (I 0)] [(0, 5, v2), (5, 1, (nth v0 1)), (9, 1, (B true))]) fun v3 => .op (.build [(I 0), (I 0), (I 0), (I 0), (I 0), (I 0), (U 0), Nf, Nf, (B false), (I 0), (I 0), (I 0), (I 0)] [(0, 11, v3), (11, 1, (nth v0 2)), (12, 1, (nth v0 3)), (13, 1, (nth v0 4))]) fun v4 => .op (.box v4) fun v5 => .bind (a186x5 v0 v5) (some 0) (fun v6 => zr [v5]) (fun v6 => [Np])
theorem e186 : denFn prog f186 [] = a186 := by kernel_rfl
def a187 : List AV → AC := fun v0 => .op (.box (nth v0 0)) fun v1 => .op (.box (nth v0 1)) fun v2 => .op (.alloc [Np]) fun v3 => .op (.alloc [(B false)]) fun v4 => zs v4 (B false) fun v5 => zr [(.fn (.func 256) [] [v4, v1, v3, v2])]
theorem e187 : denFn prog f187 [] = a187 := by kernel_rfl
def a188 : List AV → AC := fun v0 => .op (.load 4 true (nth v0 0)) fun v1 => zc 189 [v1] fun v2 => zr [v2]
theorem e188 : denFn prog f188 [] = a188 := by kernel_rfl
def a189x0 (v5 b0 : AV) : AC := .ite b0 (zn v5 fun b1 => zf 0 b1 fun b2 => zf 4 b2 fun b3 => .op (.store 1 b3 (.fn (.func 257) [v5] [])) fun b4 => zm []) (zm [])
def a189x1 (v5 v6 : AV) : AC := zf 0 v6 fun v7 => zf 6 v7 fun v8 => zl v8 fun v9 => zb .eql v9 (I 0) fun b0 => .bind (a189x0 v5 b0) none (fun b1 => zr [v5]) (fun b1 => [Np])
def a189 : List AV → AC := fun v0 => .op (.box (nth v0 0)) fun v1 => .op (.load 4 true v1) fun v2 => zc 204 [v2] fun v3 => .op (.build [(I 0), (I 0), (I 0), (I 0), Nf, (B false), (I 0), (U 0), (I 0)] [(0, 7, v3)]) fun v4 => .op (.box v4) fun v5 => zn v5 fun v6 => (a189x1 v5 v6)
theorem e189 : denFn prog f189 [] = a189 := by kernel_rfl
def a190x0 (v0 : List AV) : AC := zl (nth v0 1) fun b4 => zc 100 [b4, (I 15)] fun b5 => zm []
def a190x1 (v0 : List AV) : AC := zl (nth v0 1) fun bc => zc 100 [bc, (I 5)] fun bd => zm []
def a190x2 (v0 : List AV) (v2 b9 : AV) : AC := zl b9 fun ba => zb .geq v2 ba fun bb => .bind (.ite bb (a190x1 v0) (zm [])) none (fun bc => zm []) (fun bc => [])
def a190x3 (v0 : List AV) (v2 : AV) : AC := zl (nth v0 1) fun b4 => zn b4 fun b5 => zf 0 b5 fun b6 => zf 15 b6 fun b7 => zf 2 b7 fun b8 => zf 2 b8 fun b9 => (a190x2 v0 v2 b9)
def a190x4 (v0 : List AV) (v2 v3 : AV) : AC := zb .neq v3 (I 0) fun b3 => .bind (.ite b3 (a190x0 v0) (a190x3 v0 v2)) none (fun b4 => zm []) (fun b4 => [])
def a190x5 (v0 : List AV) (v2 v3 v5 v6 : AV) : AC := zn v5 fun b0 => zf 35 b0 fun b1 => zs b1 v6 fun b2 => .bind (a190x4 v0 v2 v3) (some 0) (fun b3 => zr []) (fun b3 => [])
def a190x6 (v0 : List AV) (v2 v3 v4 v5 v6 : AV) : AC := .chk (.load 1 false (nth v0 1)) v4 (.chk (.load 1 false (nth v0 1)) v5 (zn v4 fun v7 => zf 33 v7 fun v8 => zs v8 v2 fun v9 => .chk (.load 1 false (nth v0 1)) v5 (a190x5 v0 v2 v3 v5 v6)))
def a190 : List AV → AC := fun v0 => zc 191 [(nth v0 0)] fun v1 => .op (.extract 0 v1) fun v2 => .op (.extract 1 v1) fun v3 => zl (nth v0 1) fun v4 => zl (nth v0 1) fun v5 => zc 192 [(nth v0 0)] fun v6 => (a190x6 v0 v2 v3 v4 v5 v6)
theorem e190 : denFn prog f190 [] = a190 := by kernel_rfl
def a191x0 (v0 : List AV) (v3 v4 : AV) : AC := zn (nth v0 0) fun v5 => zf 0 v5 fun v6 => zc 258 [v6] fun v7 => .chk (.load 1 false v3) v4 (zr [v4, v7])
def a191 : List AV → AC := fun v0 => .op (.eq 295 false (nth v0 0) Np) fun v1 => .ite v1 (zr [(I 0), (I 1)]) (zn (nth v0 0) fun v2 => zf 8 v2 fun v3 => zl v3 fun v4 => (a191x0 v0 v3 v4))
theorem e191 : denFn prog f191 [2, 3] = a191 := by kernel_rfl
def a192 : List AV → AC := fun v0 => .op (.eq 295 false (nth v0 0) Np) fun v1 => .ite v1 (zr [(U 0)]) (zn (nth v0 0) fun v2 => zf 7 v2 fun v3 => zl v3 fun v4 => zr [v4])
theorem e192 : denFn prog f192 [2] = a192 := by kernel_rfl
def a193 : List AV → AC := fun v0 => .op (.box (nth v0 0)) fun v1 => .op (.box (nth v0 1)) fun v2 => .op (.alloc [Np]) fun v3 => .op (.alloc [(B false)]) fun v4 => zs v4 (B false) fun v5 => zr [(.fn (.func 259) [] [v4, v1, v3, v2])]
theorem e193 : denFn prog f193 [] = a193 := by kernel_rfl
def a194x0 (v5 v6 : AV) : AC := zn v6 fun v7 => zf 33 v7 fun v8 => zl v8 fun v9 => zc 195 [v5, v9] fun b0 => zr [b0]
def a194 : List AV → AC := fun v0 => zl (nth v0 0) fun v1 => zn v1 fun v2 => zf 0 v2 fun v3 => zf 15 v3 fun v4 => .op (.load 5 true v4) fun v5 => zl (nth v0 0) fun v6 => (a194x0 v5 v6)
theorem e194 : denFn prog f194 [] = a194 := by kernel_rfl
def a195x0 (v5 v9 : AV) : AC := .ite v9 (zn v5 fun b0 => zf 0 b0 fun b1 => zf 7 b1 fun b2 => .op (.store 1 b2 (.fn (.func 260) [v5] [])) fun b3 => zm []) (zm [])
def a195x1 (v5 v6 : AV) : AC := zf 0 v6 fun v7 => zc 245 [v7] fun v8 => .op (.un .not v8) fun v9 => .bind (a195x0 v5 v9) none (fun b0 => zr [v5]) (fun b0 => [Np])
def a195 : List AV → AC := fun v0 => .op (.box (nth v0 0)) fun v1 => .op (.load 5 true v1) fun v2 => .op (.build [(I 0), (I 0), (I 0), (I 0), (I 0), (I 0), (U 0), Nf, Nf, (B false), (I 0)] [(0, 5, v2), (5, 1, (nth v0 1)), (9, 1, (B true))]) fun v3 => .op (.build [(I 0), (I 0), (I 0), (I 0), (I 0), (I 0), (U 0), Nf, Nf, (B false), (I 0)] [(0, 11, v3)]) fun v4 => .op (.box v4) fun v5 => zn v5 fun v6 => (a195x1 v5 v6)
theorem e195 : denFn prog f195 [] = a195 := by kernel_rfl
def a196x0 (v0 : List AV) (b0 b3 : AV) : AC := zl b3 fun b4 => zc 82 [b4] fun b5 => .chk (.load 1 false (nth v0 2)) b0 (.op (.extract 0 b5) fun b6 => .op (.extract 1 b5) fun b7 => .call b0 [b6, b7] fun b8 => zm [])
def a196x1 (v0 : List AV) (v9 : AV) : AC := .ite v9 (zl (nth v0 2) fun b0 => zl (nth v0 1) fun b1 => zn b1 fun b2 => zf 34 b2 fun b3 => (a196x0 v0 b0 b3)) (zm [])
def a196x2 (v0 : List AV) (v3 v5 : AV) : AC := zf 34 v5 fun v6 => zs v6 v3 fun v7 => zl (nth v0 2) fun v8 => .op (.eq 216 true v8 Nf) fun v9 => .bind (a196x1 v0 v9) none (fun b0 => zr []) (fun b0 => [])
def a196 : List AV → AC := fun v0 => zl (nth v0 1) fun v1 => zc 197 [(nth v0 0)] fun v2 => .chk (.load 1 false (nth v0 1)) v1 (.op (.extract 0 v2) fun v3 => .op (.extract 1 v2) fun v4 => zn v1 fun v5 => (a196x2 v0 v3 v5))
theorem e196 : denFn prog f196 [] = a196 := by kernel_rfl
def a197x0 (v8 : AV) : AC := zl v8 fun v9 => zr [v9, (I 0)]
def a197x1 (v0 : List AV) (v4 : AV) : AC := zb .neq v4 (I 0) fun v5 => .ite v5 (zr [(U 0), v4]) (zn (nth v0 0) fun v6 => zf 0 v6 fun v7 => zf 6 v7 fun v8 => (a197x0 v8))
def a197 : List AV → AC := fun v0 => .op (.eq 300 false (nth v0 0) Np) fun v1 => .ite v1 (zr [(U 0), (I 1)]) (zn (nth v0 0) fun v2 => zf 0 v2 fun v3 => zc 170 [v3] fun v4 => (a197x1 v0 v4))
theorem e197 : denFn prog f197 [2, 3] = a197 := by kernel_rfl
def a198 : List AV → AC := fun v0 => .op (.box (nth v0 0)) fun v1 => .op (.box (nth v0 1)) fun v2 => .op (.alloc [Np]) fun v3 => .op (.alloc [(B false)]) fun v4 => zs v4 (B false) fun v5 => zr [(.fn (.func 261) [] [v4, v1, v3, v2])]
theorem e198 : denFn prog f198 [] = a198 := by kernel_rfl
def a199x0 (v0 : List AV) (v5 v6 v8 v9 b1 b3 b4 b5 b6 : AV) : AC := .chk (.load 1 false (nth v0 0)) v6 (.chk (.load 1 false v8) v9 (.chk (.load 1 false (nth v0 0)) b1 (.chk (.load 1 false b3) b4 (.chk (.load 1 false (nth v0 2)) b5 (zc 200 [v5, v9, b6, b4, b5] fun b7 => zr [b7])))))
def a199x1 (v0 : List AV) (v1 v4 v5 v6 v8 v9 b0 b1 b2 : AV) : AC := zf 33 b2 fun b3 => zl b3 fun b4 => zl (nth v0 2) fun b5 => .call b0 [] fun b6 => .chk (.load 1 false (nth v0 0)) v1 (.chk (.load 13 true v4) v5 (a199x0 v0 v5 v6 v8 v9 b1 b3 b4 b5 b6))
def a199x2 (v0 : List AV) (v1 v4 v5 v6 : AV) : AC := zn v6 fun v7 => zf 30 v7 fun v8 => zl v8 fun v9 => zl (nth v0 1) fun b0 => zl (nth v0 0) fun b1 => zn b1 fun b2 => (a199x1 v0 v1 v4 v5 v6 v8 v9 b0 b1 b2)
def a199 : List AV → AC := fun v0 => zl (nth v0 0) fun v1 => zn v1 fun v2 => zf 0 v2 fun v3 => zf 0 v3 fun v4 => .op (.load 13 true v4) fun v5 => zl (nth v0 0) fun v6 => (a199x2 v0 v1 v4 v5 v6)
theorem e199 : denFn prog f199 [] = a199 := by kernel_rfl
def a200x0 (v5 : AV) : AC := zn v5 fun bm => zf 0 bm fun bn => zf 18 bn fun bo => zs bo (I 3) fun bp => zm []
def a200x1 (v5 bu bv : AV) : AC := .op (.bslice 1 2 [Ni] [(0, 1, bu), (1, 1, bv)]) fun bw => zn v5 fun bx => zf 0 bx fun bz => zf 16 bz fun c0 => zs c0 bw fun c1 => zm []
def a200x2 (v5 br : AV) : AC := .ite br (zn v5 fun bs => zf 0 bs fun bt => zc 263 [bt] fun bu => zc 264 [v5] fun bv => (a200x1 v5 bu bv)) (zm [])
def a200x3 (v5 bo : AV) : AC := zf 18 bo fun bp => zl bp fun bq => zb .eql bq (I 0) fun br => .bind (a200x2 v5 br) none (fun bs => zr [v5]) (fun bs => [Np])
def a200x4 (v5 b0 bk : AV) : AC := zi b0 bk (B false) fun bl => .bind (.ite bl (a200x0 v5) (zm [])) none (fun bm => zn v5 fun bn => zf 0 bn fun bo => (a200x3 v5 bo)) (fun bm => [Np])
def a200x5 (v0 : List AV) (v1 v5 b0 be : AV) : AC := zt b0 (.mv be) fun bf => zu bf (.mv (nth v0 4)) fun bg => zu bf (.faddr 2 v1) fun bh => zu bf (.load 1 false bh) fun bi => zu bf (.bin .gtr bg bi) fun bj => zt b0 (.pick bf (B true) bj) fun bk => (a200x4 v5 b0 bk)
def a200x6 (v0 : List AV) (v1 v5 b0 b7 b8 : AV) : AC := zu b7 (.bin .gtr b8 (I 65534)) fun b9 => zt b0 (.pick b7 (B true) b9) fun ba => zt b0 (.mv ba) fun bb => zu bb (.mv (nth v0 4)) fun bc => zu bb (.bin .lss bc (I 1)) fun bd => zt b0 (.pick bb (B true) bd) fun be => (a200x5 v0 v1 v5 b0 be)
def a200x7 (v0 : List AV) (v1 v5 b0 b2 : AV) : AC := zt b0 (.mv b2) fun b3 => zu b3 (.mv (nth v0 3)) fun b4 => zu b3 (.bin .lss b4 (I 0)) fun b5 => zt b0 (.pick b3 (B true) b5) fun b6 => zt b0 (.mv b6) fun b7 => zu b7 (.mv (nth v0 3)) fun b8 => (a200x6 v0 v1 v5 b0 b7 b8)
def a200x8 (v0 : List AV) (v1 v5 v6 : AV) : AC := zf 0 v6 fun v7 => zf 18 v7 fun v8 => zl v8 fun v9 => zb .eql v9 (I 0) fun b0 => zt b0 (.mv (nth v0 2)) fun b1 => zt b0 (.bin .eql b1 (U 18446744073709551615)) fun b2 => (a200x7 v0 v1 v5 b0 b2)
def a200 : List AV → AC := fun v0 => .op (.box (nth v0 0)) fun v1 => .op (.load 13 true v1) fun v2 => zc 262 [v2, (nth v0 1)] fun v3 => .op (.build [(I 0), (I 0), (I 0), (I 0), (I 0), (I 0), (I 0), (I 0), (I 0), (I 0), (I 0), (I 0), (I 0), (I 0), (B false), (I 0), Ns, (U 0), (I 0), (U 0), (I 0), (I 0), (I 0), (U 0)] [(0, 19, v3), (19, 1, (nth v0 2)), (20, 1, (nth v0 3)), (21, 1, (nth v0 4))]) fun v4 => .op (.box v4) fun v5 => zn v5 fun v6 => (a200x8 v0 v1 v5 v6)
theorem e200 : denFn prog f200 [] = a200 := by kernel_rfl
def a201x0 (v0 : List AV) (v1 : AV) : AC := zl (nth v0 1) fun v3 => zc 110 [v3, v1] fun v4 => zm []
def a201 : List AV → AC := fun v0 => zc 202 [(nth v0 0)] fun v1 => zb .neq v1 (I 0) fun v2 => .bind (.ite v2 (a201x0 v0 v1) (zm [])) none (fun v3 => zr []) (fun v3 => [])
theorem e201 : denFn prog f201 [] = a201 := by kernel_rfl
def a202 : List AV → AC := fun v0 => .op (.eq 306 false (nth v0 0) Np) fun v1 => .ite v1 (zr [(I 1)]) (zn (nth v0 0) fun v2 => zf 0 v2 fun v3 => zc 265 [v3] fun v4 => zr [v4])
theorem e202 : denFn prog f202 [2] = a202 := by kernel_rfl
def a203x0 (v0 : List AV) : AC := zl (nth v0 2) fun v3 => .call v3 [] fun v4 => zs (nth v0 3) v4 fun v5 => zs (nth v0 1) (B true) fun v6 => zm []
def a203x1 (v8 v9 : AV) : AC := .ite v9 (.call (.fn (.method "By") [] []) [v8] fun b0 => zm [b0]) (zm [(U 0)])
def a203x2 (v0 : List AV) (b3 : AV) : AC := .ite b3 (zl (nth v0 4) fun b4 => zl (nth v0 3) fun b5 => .call b4 [b5] fun b6 => zm []) (zm [])
def a203x3 (v0 : List AV) (v5 : AV) (b0 : List AV) : AC := zt v5 (.load 1 false (nth v0 4)) fun b1 => zt v5 (.eq 310 true b1 Nf) fun b2 => zi v5 b2 (B false) fun b3 => .bind (a203x2 v0 b3) none (fun b4 => zr [v5, (nth b0 0)]) (fun b4 => [(B false), (U 0)])
def a203x4 (v0 : List AV) (v4 : AV) : AC := .call (.fn (.method "Step") [] []) [(.iface 219 v4), (nth v0 0)] fun v5 => zl (nth v0 3) fun v6 => .op (.tassert 263 true true (some Ni) (.iface 219 v6)) fun v7 => .op (.extract 0 v7) fun v8 => .op (.extract 1 v7) fun v9 => .bind (a203x1 v8 v9) none (fun b0 => (a203x3 v0 v5 b0)) (fun b0 => [(B false), (U 0)])
def a203 : List AV → AC := fun v0 => zl (nth v0 1) fun v1 => .op (.un .not v1) fun v2 => .bind (.ite v2 (a203x0 v0) (zm [])) none (fun v3 => zl (nth v0 3) fun v4 => (a203x4 v0 v4)) (fun v3 => [(B false), (U 0)])
theorem e203 : denFn prog f203 [9] = a203 := by kernel_rfl
def a204x0 (v2 v7 : AV) : AC := .op (.store 7 v2 v7) fun v8 => zr [v2]
def a204x1 (v1 v2 v3 : AV) : AC := zc 156 [v3] fun v4 => .op (.un .not v4) fun v5 => .ite v5 (.op (.build [(I 0), (I 0), (I 0), (I 0), Nf, (B false), (I 0)] [(5, 1, (B true)), (6, 1, (I 2))]) fun v6 => .op (.store 7 v2 v6) fun v7 => zr [v2]) (.op (.load 4 true v1) fun v6 => .op (.build [(I 0), (I 0), (I 0), (I 0), Nf, (B false), (I 0)] [(0, 4, v6), (5, 1, (B true))]) fun v7 => (a204x0 v2 v7))
def a204 : List AV → AC := fun v0 => .fin (.op (.box (nth v0 0)) fun v1 => .op (.alloc [(I 0), (I 0), (I 0), (I 0), Nf, (B false), (I 0)]) fun v2 => .op (.load 4 true v1) fun v3 => (a204x1 v1 v2 v3)) fun v1 => .op (.load 7 true (nth v1 0)) fun v2 => zr [v2]
theorem e204 : denFn prog f204 [] = a204 := by kernel_rfl
def a205x0 (v0 : List AV) (bc : AV) : AC := .op (.store 1 bc (.fn (.func 267) [(nth v0 0)] [])) fun bd => zr []
def a205x1 (v0 : List AV) (b5 b6 : AV) : AC := .op (.bin .add b6 (.sc (.int .u32 1))) fun b7 => zc 266 [b7] fun b8 => zc 76 [(nth v0 1), b5, b8] fun b9 => zn (nth v0 0) fun ba => zf 0 ba fun bb => zf 4 bb fun bc => (a205x0 v0 bc)
def a205x2 (v0 : List AV) (v4 v7 b0 b1 b2 : AV) : AC := zf 7 b2 fun b3 => zl b3 fun b4 => zc 159 [v4, v7] fun b5 => .chk (.load 4 true b0) b1 (.chk (.load 1 false b3) b4 (zc 235 [b1, b4] fun b6 => (a205x1 v0 b5 b6)))
def a205x3 (v0 : List AV) (v4 v6 : AV) : AC := zl v6 fun v7 => zn (nth v0 0) fun v8 => zf 0 v8 fun v9 => zf 0 v9 fun b0 => .op (.load 4 true b0) fun b1 => zn (nth v0 0) fun b2 => (a205x2 v0 v4 v7 b0 b1 b2)
def a205 : List AV → AC := fun v0 => zn (nth v0 0) fun v1 => zf 0 v1 fun v2 => zf 0 v2 fun v3 => .op (.load 4 true v3) fun v4 => zn (nth v0 0) fun v5 => zf 7 v5 fun v6 => (a205x3 v0 v4 v6)
theorem e205 : denFn prog f205 [] = a205 := by kernel_rfl
def a206 : List AV → AC := fun v0 => .op (.box (nth v0 0)) fun v1 => .op (.box (nth v0 1)) fun v2 => .op (.alloc [Np]) fun v3 => .op (.alloc [(B false)]) fun v4 => zs v4 (B false) fun v5 => zr [(.fn (.func 268) [] [v4, v1, v3, v2])]
theorem e206 : denFn prog f206 [] = a206 := by kernel_rfl
def a207x0 (v5 b0 b2 : AV) : AC := zf 30 b2 fun b3 => zl b3 fun b4 => zc 208 [v5, b0, b4] fun b5 => zr [b5]
def a207x1 (v0 : List AV) (v5 v6 : AV) : AC := zn v6 fun v7 => zf 0 v7 fun v8 => zf 23 v8 fun v9 => .op (.load 3 true v9) fun b0 => zl (nth v0 0) fun b1 => zn b1 fun b2 => (a207x0 v5 b0 b2)
def a207 : List AV → AC := fun v0 => zl (nth v0 0) fun v1 => zn v1 fun v2 => zf 0 v2 fun v3 => zf 0 v3 fun v4 => .op (.load 13 true v4) fun v5 => zl (nth v0 0) fun v6 => (a207x1 v0 v5 v6)
theorem e207 : denFn prog f207 [] = a207 := by kernel_rfl
def a208x0 (b2 : AV) : AC := zc 271 [b2, (I 2)] fun bf => zm []
def a208x1 (b2 bc : AV) : AC := zc 70 [bc] fun bd => .op (.un .not bd) fun be => .bind (.ite be (a208x0 b2) (zm [])) none (fun bf => zm []) (fun bf => [])
def a208x2 (v2 b2 b8 bb : AV) : AC := .bind (.ite bb (zc 271 [b2, b8] fun bc => zm []) (.op (.load 3 true v2) fun bc => (a208x1 b2 bc))) none (fun bc => zr [b2]) (fun bc => [Np])
def a208x3 (v2 b2 b5 : AV) : AC := zc 270 [b5] fun b6 => .op (.extract 0 b6) fun b7 => .op (.extract 1 b6) fun b8 => .op (.alloc [(U 0), (I 0)]) fun b9 => .op (.store 2 b9 b7) fun ba => zb .neq b8 (I 14) fun bb => (a208x2 v2 b2 b8 bb)
def a208x4 (v2 v7 v8 b0 : AV) : AC := .chk (.load 3 true v2) v8 (.op (.build [(I 0), (I 0), (I 0), (I 0), (I 0), Np, (U 0), Ns, (I 0), (I 0), (U 0), (B false), (B false), (I 0)] [(0, 2, v7), (2, 3, v8), (5, 1, b0), (8, 1, (I (-1))), (9, 1, (I (-1))), (11, 1, (B true))]) fun b1 => .op (.box b1) fun b2 => zn b2 fun b3 => zf 5 b3 fun b4 => zl b4 fun b5 => (a208x3 v2 b2 b5))
def a208x5 (v0 : List AV) (v1 v2 v3 v4 v5 v6 : AV) : AC := .op (.build [(I 0), (I 0)] [(0, 1, v4), (1, 1, v6)]) fun v7 => .op (.load 3 true v2) fun v8 => .op (.load 13 true v1) fun v9 => zc 269 [v9, (nth v0 2)] fun b0 => .chk (.load 1 false v3) v4 (.chk (.load 1 false v5) v6 (a208x4 v2 v7 v8 b0))
def a208 : List AV → AC := fun v0 => .op (.box (nth v0 0)) fun v1 => .op (.box (nth v0 1)) fun v2 => zf 0 v2 fun v3 => zl v3 fun v4 => zf 2 v2 fun v5 => zl v5 fun v6 => (a208x5 v0 v1 v2 v3 v4 v5 v6)
theorem e208 : denFn prog f208 [] = a208 := by kernel_rfl
def a209 : List AV → AC := fun v0 => .op (.box (nth v0 0)) fun v1 => zf 0 v1 fun v2 => zl v2 fun v3 => zn v3 fun v4 => zl v4 fun v5 => zr [v5, (B false)]
theorem e209 : denFn prog f209 [] = a209 := by kernel_rfl
def a210 : List AV → AC := fun v0 => zl (nth v0 1) fun v1 => zl (nth v0 2) fun v2 => zc 76 [(nth v0 0), v1, v2] fun v3 => zr []
theorem e210 : denFn prog f210 [] = a210 := by kernel_rfl
def a211x0 (v0 : List AV) : AC := zl (nth v0 2) fun be => .call be [(I (-1))] fun bf => zr []
def a211x1 (v0 : List AV) (b1 : AV) : AC := zl (nth v0 2) fun be => .op (.conv .i64 b1) fun bf => zb .sub bf (I 1) fun bg => .call be [bg] fun bh => zr []
def a211x2 (v0 : List AV) (b1 b2 b3 b8 : AV) : AC := zu b2 (.faddr 2 b8) fun b9 => zu b2 (.load 1 false b9) fun ba => zu b2 (.conv .u64 ba) fun bb => zu b2 (.bin .gtr b3 bb) fun bc => zi b2 (B true) bc fun bd => .ite bd (a211x0 v0) (a211x1 v0 b1)
def a211x3 (v0 : List AV) (b1 b2 : AV) : AC := zu b2 (.mv b1) fun b3 => zu b2 (.load 1 false (nth v0 1)) fun b4 => zu b2 (.nilchk b4) fun b5 => zu b2 (.faddr 0 b5) fun b6 => zu b2 (.faddr 15 b6) fun b7 => zu b2 (.faddr 2 b7) fun b8 => (a211x2 v0 b1 b2 b3 b8)
def a211x4 (v0 : List AV) (v5 v6 : AV) : AC := zn v6 fun v7 => zf 30 v7 fun v8 => zl v8 fun v9 => zb .add v5 v9 fun b0 => zc 132 [(nth v0 0), b0] fun b1 => zb .lss b1 (U 1) fun b2 => (a211x3 v0 b1 b2)
def a211 : List AV → AC := fun v0 => zl (nth v0 1) fun v1 => zn v1 fun v2 => zf 0 v2 fun v3 => zf 26 v3 fun v4 => zl v4 fun v5 => zl (nth v0 1) fun v6 => (a211x4 v0 v5 v6)
theorem e211 : denFn prog f211 [] = a211 := by kernel_rfl
def a212x0 (v0 : List AV) (b8 : AV) : AC := zt b8 (.mv (nth v0 0)) fun b9 => zt b8 (.load 1 false (nth v0 1)) fun ba => .gcall b8 true (zF 129) [ba] fun bb => .gcall b8 true b9 [bb] fun bc => zi b8 bc (B false) fun bd => zr []
def a212x1 (v0 : List AV) (v8 b2 : AV) : AC := zi v8 b2 (B false) fun b3 => zt b3 (.mv (nth v0 0)) fun b4 => zt b3 (.mv (.fn (.func 218) [] [(nth v0 1)])) fun b5 => .gcall b3 true (zF 107) [b5] fun b6 => .gcall b3 true b4 [b6] fun b7 => zi b3 b7 (B false) fun b8 => (a212x0 v0 b8)
def a212x2 (v0 : List AV) (v3 v4 v6 : AV) : AC := .gcall v3 true v4 [v6] fun v7 => zi v3 v7 (B false) fun v8 => zt v8 (.mv (nth v0 0)) fun v9 => zt v8 (.mv (.fn (.func 217) [] [(nth v0 1)])) fun b0 => .gcall v8 true (zF 107) [b0] fun b1 => .gcall v8 true v9 [b1] fun b2 => (a212x1 v0 v8 b2)
def a212 : List AV → AC := fun v0 => zl (nth v0 1) fun v1 => zc 213 [(.fn (.func 214) [] [(nth v0 1)]), (.fn (.func 216) [v1] [])] fun v2 => .call (nth v0 0) [v2] fun v3 => zt v3 (.mv (nth v0 0)) fun v4 => zt v3 (.load 1 false (nth v0 1)) fun v5 => .gcall v3 true (zF 120) [v5, (I 3), (I 4)] fun v6 => (a212x2 v0 v3 v4 v6)
theorem e212 : denFn prog f212 [] = a212 := by kernel_rfl
def a213 : List AV → AC := fun v0 => .op (.box (nth v0 0)) fun v1 => .op (.box (nth v0 1)) fun v2 => .op (.alloc [Np]) fun v3 => .op (.alloc [(B false)]) fun v4 => zs v4 (B false) fun v5 => zr [(.fn (.func 272) [] [v4, v1, v3, v2])]
theorem e213 : denFn prog f213 [] = a213 := by kernel_rfl
def a214x0 (v5 v6 : AV) : AC := zn v6 fun v7 => zf 30 v7 fun v8 => zl v8 fun v9 => zc 215 [v5, v9] fun b0 => zr [b0]
def a214 : List AV → AC := fun v0 => zl (nth v0 0) fun v1 => zn v1 fun v2 => zf 0 v2 fun v3 => zf 0 v3 fun v4 => .op (.load 13 true v4) fun v5 => zl (nth v0 0) fun v6 => (a214x0 v5 v6)
theorem e214 : denFn prog f214 [] = a214 := by kernel_rfl
def a215x0 (bf bi : AV) : AC := zs bi bf fun bj => zm []
def a215x1 (v6 b4 b9 bc bd : AV) : AC := zc 278 [bc] fun be => .chk (.load 1 false v6) b4 (.op (.bslice 1 3 [Ni] [(0, 1, bd), (1, 1, (.iface 394 b9)), (2, 1, be)]) fun bf => zn b4 fun bg => zf 0 bg fun bh => zf 16 bh fun bi => (a215x0 bf bi))
def a215x2 (v6 b4 b7 b9 : AV) : AC := zl v6 fun ba => zn ba fun bb => zf 0 bb fun bc => zc 263 [b7] fun bd => .chk (.load 1 false v6) b4 (.chk (.load 1 false v6) ba (a215x1 v6 b4 b9 bc bd))
def a215x3 (v1 v6 : AV) : AC := zl v6 fun b4 => zl v6 fun b5 => zn b5 fun b6 => zf 0 b6 fun b7 => .op (.build [Nf, Nf, Nf, Np, (B false)] [(0, 1, (.fn (.func 273) [] [v1])), (1, 1, (zF 275)), (2, 1, (.fn (.func 276) [] [v6]))]) fun b8 => .op (.box b8) fun b9 => (a215x2 v6 b4 b7 b9)
def a215x4 (v1 v6 b2 : AV) : AC := zb .eql b2 (I 0) fun b3 => .bind (.ite b3 (a215x3 v1 v6) (zm [])) none (fun b4 => zl v6 fun b5 => zr [b5]) (fun b4 => [Np])
def a215x5 (v1 v5 v6 : AV) : AC := zs v6 v5 fun v7 => zl v6 fun v8 => zn v8 fun v9 => zf 0 v9 fun b0 => zf 18 b0 fun b1 => zl b1 fun b2 => (a215x4 v1 v6 b2)
def a215 : List AV → AC := fun v0 => .op (.box (nth v0 0)) fun v1 => .op (.load 13 true v1) fun v2 => zc 262 [v2, (nth v0 1)] fun v3 => .op (.build [(I 0), (I 0), (I 0), (I 0), (I 0), (I 0), (I 0), (I 0), (I 0), (I 0), (I 0), (I 0), (I 0), (I 0), (B false), (I 0), Ns, (U 0), (I 0), (U 0), (I 0), (I 0)] [(0, 19, v3)]) fun v4 => .op (.box v4) fun v5 => .op (.alloc [Np]) fun v6 => (a215x5 v1 v5 v6)
theorem e215 : denFn prog f215 [] = a215 := by kernel_rfl
def a216x0 (v0 : List AV) : AC := zn (nth v0 0) fun bd => zf 36 bd fun be => zs be (B true) fun bf => zc 100 [(nth v0 0), (I 0)] fun bg => zm []
def a216x1 (v0 : List AV) : AC := zc 100 [(nth v0 0), (I 15)] fun be => zm []
def a216x2 (v0 : List AV) : AC := zc 100 [(nth v0 0), (I 5)] fun bs => zm []
def a216x3 (v0 : List AV) (bg bi bp : AV) : AC := zu bg (.bin .geq bi bp) fun bq => zi bg (B true) bq fun br => .bind (.ite br (a216x2 v0) (zm [])) none (fun bs => zm []) (fun bs => [])
def a216x4 (v0 : List AV) (bg bi bj : AV) : AC := zu bg (.nilchk bj) fun bk => zu bg (.faddr 0 bk) fun bl => zu bg (.faddr 15 bl) fun bm => zu bg (.faddr 2 bm) fun bn => zu bg (.faddr 2 bn) fun bo => zu bg (.load 1 false bo) fun bp => (a216x3 v0 bg bi bp)
def a216x5 (v0 : List AV) (v4 : AV) : AC := zf 1 v4 fun be => zl be fun bf => zb .lss bf (I 0) fun bg => zu bg (.faddr 1 v4) fun bh => zu bg (.load 1 false bh) fun bi => zu bg (.mv (nth v0 0)) fun bj => (a216x4 v0 bg bi bj)
def a216x6 (v0 : List AV) (v3 v4 : AV) : AC := zb .neq v3 (I 0) fun bd => .bind (.ite bd (a216x1 v0) (a216x5 v0 v4)) none (fun be => zm []) (fun be => [])
def a216x7 (v0 : List AV) (v3 v4 b6 bb : AV) : AC := zi b6 bb (B false) fun bc => .bind (.ite bc (a216x0 v0) (a216x6 v0 v3 v4)) none (fun bd => zm []) (fun bd => [])
def a216x8 (v0 : List AV) (v3 v4 : AV) : AC := zb .neq v3 (I 0) fun b6 => zt b6 (.mv (nth v0 0)) fun b7 => zt b6 (.nilchk b7) fun b8 => zt b6 (.faddr 29 b8) fun b9 => zt b6 (.load 1 false b9) fun ba => zt b6 (.bin .eql ba (I 4)) fun bb => (a216x7 v0 v3 v4 b6 bb)
def a216x9 (v0 : List AV) (v3 v4 v8 v9 : AV) : AC := .chk (.load 1 false v8) v9 (zn (nth v0 0) fun b3 => zf 34 b3 fun b4 => zs b4 v9 fun b5 => .bind (a216x8 v0 v3 v4) (some 0) (fun b6 => zr []) (fun b6 => []))
def a216x10 (v0 : List AV) (v3 v4 v6 : AV) : AC := zl v6 fun v7 => zf 0 v4 fun v8 => zl v8 fun v9 => zn (nth v0 0) fun b0 => zf 33 b0 fun b1 => zs b1 v7 fun b2 => (a216x9 v0 v3 v4 v8 v9)
def a216 : List AV → AC := fun v0 => zc 279 [(nth v0 1)] fun v1 => .op (.extract 0 v1) fun v2 => .op (.extract 1 v1) fun v3 => .op (.alloc [(U 0), (I 0)]) fun v4 => .op (.store 2 v4 v2) fun v5 => zf 1 v4 fun v6 => (a216x10 v0 v3 v4 v6)
theorem e216 : denFn prog f216 [] = a216 := by kernel_rfl
def a217x0 (v0 : List AV) (b0 b2 : AV) : AC := zf 33 b2 fun b3 => zl b3 fun b4 => zb .add b4 (I 1) fun b5 => .op (.conv .u64 b5) fun b6 => zc 76 [(nth v0 0), b0, b6] fun b7 => zr []
def a217x1 (v0 : List AV) (v5 v6 : AV) : AC := zn v6 fun v7 => zf 30 v7 fun v8 => zl v8 fun v9 => zb .add v5 v9 fun b0 => zl (nth v0 1) fun b1 => zn b1 fun b2 => (a217x0 v0 b0 b2)
def a217 : List AV → AC := fun v0 => zl (nth v0 1) fun v1 => zn v1 fun v2 => zf 0 v2 fun v3 => zf 26 v3 fun v4 => zl v4 fun v5 => zl (nth v0 1) fun v6 => (a217x1 v0 v5 v6)
theorem e217 : denFn prog f217 [] = a217 := by kernel_rfl
def a218x0 (v0 : List AV) (b1 b2 : AV) : AC := zn b2 fun b3 => zf 34 b3 fun b4 => zl b4 fun b5 => zc 76 [(nth v0 0), b1, b5] fun b6 => zr []
def a218x1 (v0 : List AV) (v6 : AV) : AC := zl (nth v0 1) fun v7 => zn v7 fun v8 => zf 30 v8 fun v9 => zl v9 fun b0 => zb .add v6 b0 fun b1 => zl (nth v0 1) fun b2 => (a218x0 v0 b1 b2)
def a218 : List AV → AC := fun v0 => zl (nth v0 1) fun v1 => zn v1 fun v2 => zf 0 v2 fun v3 => zf 23 v3 fun v4 => zf 0 v4 fun v5 => zl v5 fun v6 => (a218x1 v0 v6)
theorem e218 : denFn prog f218 [] = a218 := by kernel_rfl
def a220 : List AV → AC := fun v0 => zl (nth v0 0) fun v1 => zn v1 fun v2 => zf 34 v2 fun v3 => zl v3 fun v4 => zb .add v4 (U 1) fun v5 => zr [v5]
theorem e220 : denFn prog f220 [] = a220 := by kernel_rfl
def a222x0 (bg bh bm bq : AV) : AC := zt bg (.bin .add bm bq) fun br => .gcall bg true (zF 133) [br, (U 0)] fun bs => .gcall bg true bh [bs] fun bt => zi bg bt (B false) fun bu => zr []
def a222x1 (v0 : List AV) (bg bh bk : AV) : AC := zt bg (.faddr 26 bk) fun bl => zt bg (.load 1 false bl) fun bm => zt bg (.load 1 false (nth v0 1)) fun bn => zt bg (.nilchk bn) fun bo => zt bg (.faddr 30 bo) fun bp => zt bg (.load 1 false bp) fun bq => (a222x0 bg bh bm bq)
def a222x2 (v0 : List AV) (b9 ba be : AV) : AC := .gcall b9 true ba [be] fun bf => zi b9 bf (B false) fun bg => zt bg (.mv (nth v0 0)) fun bh => zt bg (.load 1 false (nth v0 1)) fun bi => zt bg (.nilchk bi) fun bj => zt bg (.faddr 0 bj) fun bk => (a222x1 v0 bg bh bk)
def a222x3 (v0 : List AV) (b3 b8 : AV) : AC := zi b3 b8 (B false) fun b9 => zt b9 (.mv (nth v0 0)) fun ba => zt b9 (.load 1 false (nth v0 1)) fun bb => zt b9 (.load 1 false (nth v0 3)) fun bc => zt b9 (.load 1 false (nth v0 4)) fun bd => .gcall b9 true (zF 124) [bb, bc, bd] fun be => (a222x2 v0 b9 ba be)
def a222x4 (v0 : List AV) (v8 b2 : AV) : AC := zi v8 b2 (B false) fun b3 => zt b3 (.mv (nth v0 0)) fun b4 => zt b3 (.load 1 false (nth v0 1)) fun b5 => zt b3 (.load 1 false (nth v0 3)) fun b6 => .gcall b3 true (zF 112) [b5, b6] fun b7 => .gcall b3 true b4 [b7] fun b8 => (a222x3 v0 b3 b8)
def a222x5 (v0 : List AV) (v3 v4 v6 : AV) : AC := .gcall v3 true v4 [v6] fun v7 => zi v3 v7 (B false) fun v8 => zt v8 (.mv (nth v0 0)) fun v9 => zt v8 (.load 1 false (nth v0 2)) fun b0 => .gcall v8 true (zF 133) [b0, (U 18446744073709551615)] fun b1 => .gcall v8 true v9 [b1] fun b2 => (a222x4 v0 v8 b2)
def a222 : List AV → AC := fun v0 => zl (nth v0 1) fun v1 => zc 122 [v1, (.fn (.func 223) [] [(nth v0 1)])] fun v2 => .call (nth v0 0) [v2] fun v3 => zt v3 (.mv (nth v0 0)) fun v4 => zt v3 (.load 1 false (nth v0 1)) fun v5 => .gcall v3 true (zF 120) [v5, (I 4), (I 3)] fun v6 => (a222x5 v0 v3 v4 v6)
theorem e222 : denFn prog f222 [] = a222 := by kernel_rfl
def a223x0 (v0 : List AV) (v5 : AV) : AC := .ite v5 (zl (nth v0 2) fun v6 => zc 100 [v6, (I 12)] fun v7 => zm []) (zm [])
def a223x1 (v0 : List AV) (v1 v2 : AV) : AC := .ite v2 (zl (nth v0 2) fun v3 => zc 100 [v3, (I 5)] fun v4 => zm []) (zf 2 v1 fun v3 => zl v3 fun v4 => zb .eql v4 (I 65535) fun v5 => .bind (a223x0 v0 v5) none (fun v6 => zm []) (fun v6 => []))
def a223 : List AV → AC := fun v0 => .op (.box (nth v0 0)) fun v1 => .bind (zb .neq (nth v0 1) (I 0) fun v2 => .bind (a223x1 v0 v1 v2) none (fun v3 => zm []) (fun v3 => [])) (some 0) (fun v2 => zr []) (fun v2 => [])
theorem e223 : denFn prog f223 [] = a223 := by kernel_rfl
def a224 : List AV → AC := fun v0 => .op (.box (nth v0 0)) fun v1 => .op (.box (nth v0 1)) fun v2 => .op (.alloc [(I 0)]) fun v3 => .op (.store 1 v3 (I 0)) fun v4 => .ret .ret [(.fn (.func 280) [] [v3, v2, v1])]
theorem e224 : denFn prog f224 [] = a224 := by kernel_rfl
def a225x0 (v4 v6 : AV) : AC := .gop v4 true (.bin .leq v6 (I 64)) fun v7 => .op (.pick v4 v7 (B false)) fun v8 => .ret .ret [v8]
def a225 : List AV → AC := fun v0 => .op (.box (nth v0 0)) fun v1 => .op (.faddr 2 v1) fun v2 => .op (.load 1 false v2) fun v3 => .op (.bin .geq v3 (I 1)) fun v4 => .gop v4 true (.faddr 2 v1) fun v5 => .gop v4 true (.load 1 false v5) fun v6 => (a225x0 v4 v6)
theorem e225 : denFn prog f225 [] = a225 := by kernel_rfl
def a226x0 (v0 : List AV) (b8 : AV) : AC := .call (.fn (.func 76) [] []) [(nth v0 1), b8, (U 1)] fun b9 => .ret .normal []
def a226x1 (v0 : List AV) (v1 : AV) (b4 : List AV) : AC := .bind (.op (.faddr 3 v1) fun b6 => .op (.load 1 false b6) fun b7 => .op (.bin .add b7 (nth b4 0)) fun b8 => (a226x0 v0 b8)) (some 1) (fun b6 => .op (.bin .add (nth b4 0) (I 1)) fun b7 => .ret .normal [b7]) (fun b6 => [(nth b4 0)])
def a226x2 (v0 : List AV) (v1 b3 : AV) : AC := .loop [(I 0)] (fun b4 => .op (.bin .lss (nth b4 0) b3) fun b5 => .ite b5 (a226x1 v0 v1 b4) (.ret (.exit 0) [(nth b4 0)])) (fun b4 => [(nth b4 0)])
def a226x3 (v0 : List AV) (v1 : AV) : AC := .op (.faddr 0 v1) fun b1 => .op (.faddr 2 b1) fun b2 => .op (.load 1 false b2) fun b3 => .bind (a226x2 v0 v1 b3) (some 0) (fun b4 => .ret .ret []) (fun b4 => [])
def a226x4 (v0 : List AV) (v1 : AV) : AC := .op (.faddr 0 v1) fun v5 => .op (.load 3 true v5) fun v6 => .call (.fn (.func 147) [] []) [v6, (nth v0 1)] fun v7 => .op (.faddr 4 v1) fun v8 => .op (.load 1 false v8) fun v9 => .call (.fn (.func 76) [] []) [(nth v0 1), v9, (U 0)] fun b0 => (a226x3 v0 v1)
def a226 : List AV → AC := fun v0 => .op (.box (nth v0 0)) fun v1 => .op (.load 6 true v1) fun v2 => .call (.fn (.func 281) [] []) [v2] fun v3 => .op (.un .not v3) fun v4 => .ite v4 (.ret .ret []) (a226x4 v0 v1)
theorem e226 : denFn prog f226 [19] = a226 := by kernel_rfl
def a227x0 (v2 : AV) (b2 : List AV) : AC := .start (nth b2 0) (.bind (.op (.load 1 false v2) fun b3 => .call (.fn (.func 76) [] []) [b3, (nth b2 2), (U 0)] fun b4 => .ret .normal []) (some 1) (fun b3 => .ret .normal []) (fun b3 => []))
def a227x1 (v2 b1 : AV) : AC := .bind (.rng 2 b1 (fun b2 => (a227x0 v2 b2)) (.ret .normal []) []) (some 0) (fun b2 => .ret .ret []) (fun b2 => [])
def a227x2 (v1 v2 : AV) : AC := .op (.load 1 false v2) fun v6 => .op (.faddr 0 v1) fun v7 => .op (.load 1 false v7) fun v8 => .call (.fn (.func 76) [] []) [v6, v8, (U 0)] fun v9 => .op (.load 3 true v1) fun b0 => .call (.fn (.func 282) [] []) [b0] fun b1 => (a227x1 v2 b1)
def a227 : List AV → AC := fun v0 => .op (.box (nth v0 0)) fun v1 => .op (.box (nth v0 1)) fun v2 => .op (.load 3 true v1) fun v3 => .call (.fn (.func 225) [] []) [v3] fun v4 => .op (.un .not v4) fun v5 => .ite v5 (.ret .ret []) (a227x2 v1 v2)
theorem e227 : denFn prog f227 [] = a227 := by kernel_rfl
def a228x0 (v1 v2 v5 v9 : AV) : AC := .op (.faddr 0 v1) fun b0 => .op (.faddr 0 b0) fun b1 => .op (.faddr 2 b1) fun b2 => .op (.load 1 false b2) fun b3 => .op (.build [(I 0), (I 0), (I 0)] [(0, 1, v5), (1, 1, v9), (2, 1, b3)]) fun b4 => .op (.store 3 v2 b4) fun b5 => .ret .ret [v2]
def a228x1 (v0 : List AV) (v1 v2 v3 : AV) : AC := .op (.load 1 false v3) fun v4 => .op (.bin .add v4 (nth v0 0)) fun v5 => .op (.faddr 0 v1) fun v6 => .op (.faddr 0 v6) fun v7 => .op (.faddr 1 v7) fun v8 => .op (.load 1 false v8) fun v9 => (a228x0 v1 v2 v5 v9)
def a228 : List AV → AC := fun v0 => .fin (.op (.box (nth v0 1)) fun v1 => .op (.alloc [(I 0), (I 0), (I 0)]) fun v2 => .op (.faddr 9 v1) fun v3 => (a228x1 v0 v1 v2 v3)) fun v1 => .op (.load 3 true (nth v1 0)) fun v2 => .ret .ret [v2]
theorem e228 : denFn prog f228 [] = a228 := by kernel_rfl
def a229x0 (v0 v3 : List AV) : AC := .op (.faddr 0 (nth v0 1)) fun v5 => .op (.load 1 false v5) fun v6 => .op (.bin .add v6 (nth v3 0)) fun v7 => .call (nth v0 0) [v7] fun v8 => .op (.un .not v8) fun v9 => .ite v9 (.ret .ret []) (.ret .normal [])
def a229x1 (v3 : List AV) : AC := .op (.bin .add (nth v3 0) (I 1)) fun v6 => .ret .normal [v6]
def a229x2 (v0 : List AV) (v2 : AV) (v3 : List AV) : AC := .op (.bin .lss (nth v3 0) v2) fun v4 => .ite v4 (.bind (a229x0 v0 v3) (some 1) (fun v5 => (a229x1 v3)) (fun v5 => [(nth v3 0)])) (.ret (.exit 0) [(nth v3 0)])
def a229 : List AV → AC := fun v0 => .op (.faddr 1 (nth v0 1)) fun v1 => .op (.load 1 false v1) fun v2 => .bind (.loop [(I 0)] (fun v3 => (a229x2 v0 v2 v3)) (fun v3 => [(nth v3 0)])) (some 0) (fun v3 => .ret .ret []) (fun v3 => [])
theorem e229 : denFn prog f229 [6] = a229 := by kernel_rfl
def a230 : List AV → AC := fun v0 => .op (.build [(I 0), (I 0)] [(0, 1, (nth v0 0))]) fun v1 => .call (.fn (.func 283) [] []) [v1] fun v2 => .op (.extract 0 v2) fun v3 => .op (.extract 1 v2) fun v4 => .ret .ret [v3]
theorem e230 : denFn prog f230 [] = a230 := by kernel_rfl
def a231x0 (v0 v3 : List AV) (b6 : AV) : AC := .call (nth v0 0) [(nth v3 0), b6] fun b7 => .op (.un .not b7) fun b8 => .ite b8 (.ret .ret []) (.ret .normal [])
def a231x1 (v0 v3 : List AV) (v6 b0 : AV) : AC := .op (.bin .add v6 b0) fun b1 => .op (.bin .add b1 (I 1)) fun b2 => .op (.bin .add b1 (I 2)) fun b3 => .op (.faddr 2 (nth v0 1)) fun b4 => .op (.load 1 false b4) fun b5 => .op (.build [(I 0), (I 0), (I 0), (I 0)] [(0, 1, b1), (1, 1, b2), (2, 1, b3), (3, 1, b5)]) fun b6 => (a231x0 v0 v3 b6)
def a231x2 (v0 v3 : List AV) : AC := .op (.faddr 0 (nth v0 1)) fun v5 => .op (.load 1 false v5) fun v6 => .op (.faddr 2 (nth v0 1)) fun v7 => .op (.load 1 false v7) fun v8 => .op (.bin .add v8 (I 2)) fun v9 => .op (.bin .mul (nth v3 0) v9) fun b0 => (a231x1 v0 v3 v6 b0)
def a231x3 (v3 : List AV) : AC := .op (.bin .add (nth v3 0) (I 1)) fun v6 => .ret .normal [v6]
def a231x4 (v0 : List AV) (v2 : AV) (v3 : List AV) : AC := .op (.bin .lss (nth v3 0) v2) fun v4 => .ite v4 (.bind (a231x2 v0 v3) (some 1) (fun v5 => (a231x3 v3)) (fun v5 => [(nth v3 0)])) (.ret (.exit 0) [(nth v3 0)])
def a231 : List AV → AC := fun v0 => .op (.faddr 1 (nth v0 1)) fun v1 => .op (.load 1 false v1) fun v2 => .bind (.loop [(I 0)] (fun v3 => (a231x4 v0 v2 v3)) (fun v3 => [(nth v3 0)])) (some 0) (fun v3 => .ret .ret []) (fun v3 => [])
theorem e231 : denFn prog f231 [7] = a231 := by kernel_rfl
def a232 : List AV → AC := fun v0 => .op (.eq 239 true (nth v0 0) Np) fun v1 => .ret .ret [v1]
theorem e232 : denFn prog f232 [] = a232 := by kernel_rfl
def a233x0 (v7 : List AV) : AC := .op (.bin .add (nth v7 1) (U 1)) fun bc => .ret .normal [bc]
def a233x1 (v7 : List AV) (b6 b7 : AV) : AC := .gop b6 false (.mv (nth v7 1)) fun b8 => .gcall b6 false b7 [b8] fun b9 => .gop b6 false (.un .not b9) fun ba => .op (.pick b6 (B true) ba) fun bb => .ite bb (.ret .ret [(nth v7 1)]) (a233x0 v7)
def a233x2 (v0 v7 : List AV) (v9 b1 b2 : AV) : AC := .call v9 [b2] fun b3 => .chk (.load 4 true (nth v0 2)) b1 (.call (.fn (.func 235) [] []) [b1, (nth v7 1)] fun b4 => .call (.fn (.func 234) [] []) [b3, b4] fun b5 => .op (.un .not b5) fun b6 => .gop b6 false (.mv (nth v0 0)) fun b7 => (a233x1 v7 b6 b7))
def a233x3 (v0 v7 : List AV) : AC := .op (.load 1 false (nth v0 1)) fun v9 => .op (.load 4 true (nth v0 2)) fun b0 => .op (.load 4 true (nth v0 2)) fun b1 => .call (.fn (.func 159) [] []) [b0, (nth v7 1)] fun b2 => .chk (.load 1 false (nth v0 1)) v9 (.chk (.load 4 true (nth v0 2)) b1 (a233x2 v0 v7 v9 b1 b2))
def a233x4 (v7 v9 : List AV) : AC := .op (.bin .add (nth v7 0) (I 1)) fun b0 => .ret .normal [b0, (nth v9 0)]
def a233x5 (v0 : List AV) (v6 : AV) (v7 : List AV) : AC := .op (.bin .lss (nth v7 0) v6) fun v8 => .ite v8 (.bind (a233x3 v0 v7) (some 1) (fun v9 => (a233x4 v7 v9)) (fun v9 => [(nth v7 0), (nth v9 0)])) (.ret (.exit 0) [(nth v7 0), (nth v7 1)])
def a233x6 (v0 : List AV) (v4 v6 : AV) : AC := .bind (.loop [(I 0), v4] (fun v7 => (a233x5 v0 v6 v7)) (fun v7 => [(nth v7 0), (nth v7 1)])) (some 0) (fun v7 => .ret .ret []) (fun v7 => [])
def a233 : List AV → AC := fun v0 => .op (.load 1 false (nth v0 1)) fun v1 => .op (.faddr 0 (nth v0 2)) fun v2 => .op (.load 1 false v2) fun v3 => .call v1 [v3] fun v4 => .op (.faddr 3 (nth v0 2)) fun v5 => .op (.load 1 false v5) fun v6 => (a233x6 v0 v4 v6)
theorem e233 : denFn prog f233 [4, 11] = a233 := by kernel_rfl
def a234x0 (v3 v6 : AV) : AC := .op (.pick v3 v6 (B false)) fun v7 => .ret .ret [v7]
def a234 : List AV → AC := fun v0 => .op (.bin .shr (nth v0 0) (U 32)) fun v1 => .op (.conv .u32 v1) fun v2 => .op (.bin .eql v2 (nth v0 1)) fun v3 => .gop v3 true (.mv (nth v0 0)) fun v4 => .gop v3 true (.bin .and v4 (U 65536)) fun v5 => .gop v3 true (.bin .neq v5 (U 0)) fun v6 => (a234x0 v3 v6)
theorem e234 : denFn prog f234 [] = a234 := by kernel_rfl
def a235 : List AV → AC := fun v0 => .op (.box (nth v0 0)) fun v1 => .op (.faddr 3 v1) fun v2 => .op (.load 1 false v2) fun v3 => .op (.conv .u64 v3) fun v4 => .op (.bin .quo (nth v0 1) v4) fun v5 => .op (.conv .u32 v5) fun v6 => .ret .ret [v6]
theorem e235 : denFn prog f235 [] = a235 := by kernel_rfl
def a236x0 (v0 : List AV) (v1 v7 v8 v9 : AV) : AC := .chk (.load 2 true v7) v8 (.op (.bin .sub v9 (I 1)) fun b0 => .call (.fn (.func 155) [] []) [(nth v0 0), v8] fun b1 => .op (.build [(I 0), (I 0)] [(0, 1, b0), (1, 1, b1)]) fun b2 => .op (.store 2 v1 b2) fun b3 => .ret .ret [v1, (I 0)])
def a236x1 (v0 : List AV) (v1 v2 v3 : AV) : AC := .op (.store 4 v3 v2) fun v4 => .op (.paddr 2 2 v3 (I 0)) fun v5 => .op (.load 2 true v5) fun v6 => .op (.paddr 2 2 v3 (I 1)) fun v7 => .op (.load 2 true v7) fun v8 => .call (.fn (.func 155) [] []) [(nth v0 0), v6] fun v9 => (a236x0 v0 v1 v7 v8 v9)
def a236 : List AV → AC := fun v0 => .fin (.op (.alloc [(I 0), (I 0)]) fun v1 => .call (.fn (.func 284) [] []) [] fun v2 => .op (.alloc [(I 0), (I 0), (I 0), (I 0)]) fun v3 => (a236x1 v0 v1 v2 v3)) fun v1 => .op (.load 2 true (nth v1 0)) fun v2 => .ret .ret [v2, (nth v1 1)]
theorem e236 : denFn prog f236 [] = a236 := by kernel_rfl
def a237x0 (v0 : List AV) (b5 : AV) : AC := .ite b5 (zn (nth v0 0) fun b6 => zf 5 b6 fun b7 => .op (.store 1 b7 (.fn (.func 166) [(nth v0 0)] [])) fun b8 => zm []) (zm [])
def a237x1 (v0 : List AV) (b1 b2 : AV) : AC := zf 5 b2 fun b3 => zs b3 Nf fun b4 => .op (.un .not b1) fun b5 => .bind (a237x0 v0 b5) none (fun b6 => zr []) (fun b6 => [])
def a237x2 (v0 : List AV) (v3 v6 : AV) : AC := zn (nth v0 0) fun v7 => zf 3 v7 fun v8 => zl v8 fun v9 => zb .add v9 (U 1) fun b0 => zc 285 [(nth v0 1), v3, v6, b0] fun b1 => zn (nth v0 0) fun b2 => (a237x1 v0 b1 b2)
def a237 : List AV → AC := fun v0 => zn (nth v0 0) fun v1 => zf 1 v1 fun v2 => zl v2 fun v3 => zn (nth v0 0) fun v4 => zf 4 v4 fun v5 => zl v5 fun v6 => (a237x2 v0 v3 v6)
theorem e237 : denFn prog f237 [] = a237 := by kernel_rfl
def a238x0 (v0 : List AV) : AC := zb .sub (nth v0 0) (U 1) fun v4 => zb .sub (nth v0 1) v4 fun v5 => zb .lss v5 (nth v0 2) fun v6 => zr [v6]
def a238 : List AV → AC := fun v0 => zb .eql (nth v0 0) (U 0) fun v1 => .ite v1 (zr [(B false)]) (zb .sub (nth v0 0) (U 1) fun v2 => zb .lss (nth v0 1) v2 fun v3 => .ite v3 (zr [(B true)]) (a238x0 v0))
theorem e238 : denFn prog f238 [6] = a238 := by kernel_rfl
def a239x0 (v0 : List AV) (b5 : AV) : AC := .ite b5 (zn (nth v0 0) fun b6 => zf 0 b6 fun b7 => zc 288 [b7, (I 15)] fun b8 => zm []) (zm [])
def a239x1 (v0 : List AV) (b2 : AV) : AC := zf 4 b2 fun b3 => zl b3 fun b4 => zb .lss b4 (I 0) fun b5 => .bind (a239x0 v0 b5) none (fun b6 => zr []) (fun b6 => [])
def a239x2 (v0 : List AV) (v6 : AV) : AC := zn (nth v0 0) fun v7 => zf 0 v7 fun v8 => zf 4 v8 fun v9 => zs v9 v6 fun b0 => zn (nth v0 0) fun b1 => zf 0 b1 fun b2 => (a239x1 v0 b2)
def a239 : List AV → AC := fun v0 => zn (nth v0 0) fun v1 => zf 9 v1 fun v2 => .op (.store 1 v2 (zF 286)) fun v3 => zn (nth v0 0) fun v4 => zf 0 v4 fun v5 => zc 287 [v5, (nth v0 1)] fun v6 => (a239x2 v0 v6)
theorem e239 : denFn prog f239 [] = a239 := by kernel_rfl
def a240x0 (v0 : List AV) : AC := zn (nth v0 0) fun b1 => zf 0 b1 fun b2 => zf 7 b2 fun b3 => zl b3 fun b4 => zr [b4]
def a240x1 (v0 : List AV) (v6 : AV) : AC := .ite v6 (zr [(B true)]) (zn (nth v0 0) fun v7 => zf 9 v7 fun v8 => zl v8 fun v9 => .call v9 [(nth v0 0), (nth v0 1)] fun b0 => (a240x0 v0))
def a240 : List AV → AC := fun v0 => .op (.eq 269 false (nth v0 0) Np) fun v1 => zu v1 (.mv (nth v0 0)) fun v2 => zu v1 (.nilchk v2) fun v3 => zu v1 (.faddr 0 v3) fun v4 => .gcall v1 false (zF 289) [v4] fun v5 => zi v1 (B true) v5 fun v6 => (a240x1 v0 v6)
theorem e240 : denFn prog f240 [4] = a240 := by kernel_rfl
def a241x0 (v4 : AV) : AC := .op (.extract 0 v4) fun v5 => .op (.extract 1 v4) fun v6 => zr [v5, v6]
def a241 : List AV → AC := fun v0 => .op (.eq 269 false (nth v0 0) Np) fun v1 => .ite v1 (zr [(I 0), (I 1)]) (zn (nth v0 0) fun v2 => zf 0 v2 fun v3 => zc 290 [v3] fun v4 => (a241x0 v4))
theorem e241 : denFn prog f241 [2, 3] = a241 := by kernel_rfl
def a242x0 (v0 : List AV) (v6 : AV) : AC := .op (.store 1 v6 (.fn (.func 292) [(nth v0 0)] [])) fun v7 => zr []
def a242 : List AV → AC := fun v0 => zn (nth v0 0) fun v1 => zf 0 v1 fun v2 => zc 291 [v2, (nth v0 1)] fun v3 => zn (nth v0 0) fun v4 => zf 0 v4 fun v5 => zf 8 v5 fun v6 => (a242x0 v0 v6)
theorem e242 : denFn prog f242 [] = a242 := by kernel_rfl
def a243 : List AV → AC := fun v0 => zn (nth v0 0) fun v1 => zf 8 v1 fun v2 => zs v2 Nf fun v3 => zn (nth v0 0) fun v4 => zf 10 v4 fun v5 => zs v5 (nth v0 1) fun v6 => zr []
theorem e243 : denFn prog f243 [] = a243 := by kernel_rfl
def a244x0 (v0 : List AV) : AC := zl (nth v0 2) fun v3 => .call v3 [] fun v4 => zs (nth v0 3) v4 fun v5 => zs (nth v0 1) (B true) fun v6 => zm []
def a244x1 (v8 v9 : AV) : AC := .ite v9 (.call (.fn (.method "By") [] []) [v8] fun b0 => zm [b0]) (zm [(U 0)])
def a244x2 (v0 : List AV) (b3 : AV) : AC := .ite b3 (zl (nth v0 4) fun b4 => zl (nth v0 3) fun b5 => .call b4 [b5] fun b6 => zm []) (zm [])
def a244x3 (v0 : List AV) (v5 : AV) (b0 : List AV) : AC := zt v5 (.load 1 false (nth v0 4)) fun b1 => zt v5 (.eq 348 true b1 Nf) fun b2 => zi v5 b2 (B false) fun b3 => .bind (a244x2 v0 b3) none (fun b4 => zr [v5, (nth b0 0)]) (fun b4 => [(B false), (U 0)])
def a244x4 (v0 : List AV) (v4 : AV) : AC := .call (.fn (.method "Step") [] []) [(.iface 274 v4), (nth v0 0)] fun v5 => zl (nth v0 3) fun v6 => .op (.tassert 263 true true (some Ni) (.iface 274 v6)) fun v7 => .op (.extract 0 v7) fun v8 => .op (.extract 1 v7) fun v9 => .bind (a244x1 v8 v9) none (fun b0 => (a244x3 v0 v5 b0)) (fun b0 => [(B false), (U 0)])
def a244 : List AV → AC := fun v0 => zl (nth v0 1) fun v1 => .op (.un .not v1) fun v2 => .bind (.ite v2 (a244x0 v0) (zm [])) none (fun v3 => zl (nth v0 3) fun v4 => (a244x4 v0 v4)) (fun v3 => [(B false), (U 0)])
theorem e244 : denFn prog f244 [9] = a244 := by kernel_rfl
def a245x0 (v0 : List AV) (b6 : AV) : AC := .ite b6 (zn (nth v0 0) fun b7 => zf 10 b7 fun b8 => zs b8 (I 3) fun b9 => zm []) (zm [])
def a245x1 (v0 : List AV) : AC := zn (nth v0 0) fun b8 => zf 10 b8 fun b9 => zl b9 fun ba => zb .neq ba (I 0) fun bb => zr [bb]
def a245x2 (v0 : List AV) (v4 v8 b2 : AV) : AC := zu v4 (.faddr 2 b2) fun b3 => zu v4 (.load 1 false b3) fun b4 => zu v4 (.bin .geq v8 b4) fun b5 => zi v4 (B true) b5 fun b6 => .bind (a245x0 v0 b6) none (fun b7 => (a245x1 v0)) (fun b7 => [(B false)])
def a245x3 (v0 : List AV) (v4 v6 : AV) : AC := zu v4 (.faddr 5 v6) fun v7 => zu v4 (.load 1 false v7) fun v8 => zu v4 (.mv (nth v0 0)) fun v9 => zu v4 (.nilchk v9) fun b0 => zu v4 (.faddr 0 b0) fun b1 => zu v4 (.faddr 2 b1) fun b2 => (a245x2 v0 v4 v8 b2)
def a245 : List AV → AC := fun v0 => zn (nth v0 0) fun v1 => zf 5 v1 fun v2 => zl v2 fun v3 => zb .lss v3 (I 0) fun v4 => zu v4 (.mv (nth v0 0)) fun v5 => zu v4 (.nilchk v5) fun v6 => (a245x3 v0 v4 v6)
theorem e245 : denFn prog f245 [] = a245 := by kernel_rfl
def a246x0 (v5 b1 : AV) : AC := .ite b1 (zn v5 fun b2 => zf 0 b2 fun b3 => zc 288 [b3, (I 3)] fun b4 => zm []) (zm [])
def a246x1 (v0 : List AV) (v1 v5 v6 : AV) : AC := zu v6 (.mv (nth v0 1)) fun v7 => zu v6 (.faddr 2 v1) fun v8 => zu v6 (.load 1 false v8) fun v9 => zu v6 (.bin .geq v7 v9) fun b0 => zi v6 (B true) b0 fun b1 => .bind (a246x0 v5 b1) none (fun b2 => zr [v5]) (fun b2 => [Np])
def a246 : List AV → AC := fun v0 => .op (.box (nth v0 0)) fun v1 => .op (.load 3 true v1) fun v2 => .op (.build [(I 0), (I 0), (I 0), (U 0), (I 0), (I 0), (B false), (B false), (I 0)] [(0, 3, v2), (4, 1, (nth v0 1)), (6, 1, (B true))]) fun v3 => .op (.build [(I 0), (I 0), (I 0), (U 0), (I 0), (I 0), (B false), (B false), (I 0), Nf] [(0, 9, v3), (9, 1, (zF 293))]) fun v4 => .op (.box v4) fun v5 => zb .lss (nth v0 1) (I 0) fun v6 => (a246x1 v0 v1 v5 v6)
theorem e246 : denFn prog f246 [] = a246 := by kernel_rfl
def a247x0 (v0 : List AV) (b1 : AV) : AC := .ite b1 (zn (nth v0 0) fun b2 => zf 0 b2 fun b3 => zc 243 [b3, (I 11)] fun b4 => zm []) (zm [])
def a247x1 (v0 : List AV) (v6 : AV) : AC := zc 291 [v6, (nth v0 1)] fun v7 => zb .neq v7 (I 5) fun v8 => zt v8 (.mv v7) fun v9 => zt v8 (.bin .neq v9 (I 2)) fun b0 => zi v8 b0 (B false) fun b1 => .bind (a247x0 v0 b1) none (fun b2 => zr []) (fun b2 => [])
def a247 : List AV → AC := fun v0 => zn (nth v0 0) fun v1 => zf 0 v1 fun v2 => zf 8 v2 fun v3 => .op (.store 1 v3 (.fn (.func 294) [(nth v0 0)] [])) fun v4 => zn (nth v0 0) fun v5 => zf 0 v5 fun v6 => (a247x1 v0 v6)
theorem e247 : denFn prog f247 [] = a247 := by kernel_rfl
def a248 : List AV → AC := fun v0 => .op (.box (nth v0 1)) fun v1 => .op (.conv .u64 (nth v0 2)) fun v2 => .op (.faddr 0 v1) fun v3 => .op (.load 1 false v3) fun v4 => .op (.bin .shl v2 v4) fun v5 => .op (.bin .or (nth v0 0) v5) fun v6 => .ret .ret [v6]
theorem e248 : denFn prog f248 [] = a248 := by kernel_rfl
def a249x0 (v0 : List AV) : AC := zl (nth v0 2) fun v3 => .call v3 [] fun v4 => zs (nth v0 3) v4 fun v5 => zs (nth v0 1) (B true) fun v6 => zm []
def a249x1 (v8 v9 : AV) : AC := .ite v9 (.call (.fn (.method "By") [] []) [v8] fun b0 => zm [b0]) (zm [(U 0)])
def a249x2 (v0 : List AV) (b3 : AV) : AC := .ite b3 (zl (nth v0 4) fun b4 => zl (nth v0 3) fun b5 => .call b4 [b5] fun b6 => zm []) (zm [])
def a249x3 (v0 : List AV) (v5 : AV) (b0 : List AV) : AC := zt v5 (.load 1 false (nth v0 4)) fun b1 => zt v5 (.eq 355 true b1 Nf) fun b2 => zi v5 b2 (B false) fun b3 => .bind (a249x2 v0 b3) none (fun b4 => zr [v5, (nth b0 0)]) (fun b4 => [(B false), (U 0)])
def a249x4 (v0 : List AV) (v4 : AV) : AC := .call (.fn (.method "Step") [] []) [(.iface 283 v4), (nth v0 0)] fun v5 => zl (nth v0 3) fun v6 => .op (.tassert 263 true true (some Ni) (.iface 283 v6)) fun v7 => .op (.extract 0 v7) fun v8 => .op (.extract 1 v7) fun v9 => .bind (a249x1 v8 v9) none (fun b0 => (a249x3 v0 v5 b0)) (fun b0 => [(B false), (U 0)])
def a249 : List AV → AC := fun v0 => zl (nth v0 1) fun v1 => .op (.un .not v1) fun v2 => .bind (.ite v2 (a249x0 v0) (zm [])) none (fun v3 => zl (nth v0 3) fun v4 => (a249x4 v0 v4)) (fun v3 => [(B false), (U 0)])
theorem e249 : denFn prog f249 [9] = a249 := by kernel_rfl
def a250x0 (v0 : List AV) (b0 b2 : AV) : AC := zl b2 fun b3 => zc 76 [(nth v0 1), b0, b3] fun b4 => zn (nth v0 0) fun b5 => zf 0 b5 fun b6 => zc 243 [b6, (I 0)] fun b7 => zr []
def a250x1 (v0 : List AV) (v5 v6 : AV) : AC := zf 0 v6 fun v7 => zf 5 v7 fun v8 => zl v8 fun v9 => zb .add v5 v9 fun b0 => zn (nth v0 0) fun b1 => zf 11 b1 fun b2 => (a250x0 v0 b0 b2)
def a250 : List AV → AC := fun v0 => zn (nth v0 0) fun v1 => zf 0 v1 fun v2 => zf 0 v2 fun v3 => zf 1 v3 fun v4 => zl v4 fun v5 => zn (nth v0 0) fun v6 => (a250x1 v0 v5 v6)
theorem e250 : denFn prog f250 [] = a250 := by kernel_rfl
def a251 : List AV → AC := fun v0 => zn (nth v0 0) fun v1 => zf 4 v1 fun v2 => zs v2 Nf fun v3 => zn (nth v0 0) fun v4 => zf 6 v4 fun v5 => zs v5 (nth v0 1) fun v6 => zr []
theorem e251 : denFn prog f251 [] = a251 := by kernel_rfl
def a252x0 (v0 : List AV) (b2 : AV) : AC := .op (.store 1 b2 (.fn (.func 295) [(nth v0 0)] [])) fun b3 => zr []
def a252x1 (v0 : List AV) (v6 : AV) : AC := zn (nth v0 0) fun v7 => zf 8 v7 fun v8 => zs v8 v6 fun v9 => zn (nth v0 0) fun b0 => zf 0 b0 fun b1 => zf 4 b1 fun b2 => (a252x0 v0 b2)
def a252 : List AV → AC := fun v0 => zn (nth v0 0) fun v1 => zf 0 v1 fun v2 => zf 0 v2 fun v3 => zf 1 v3 fun v4 => zl v4 fun v5 => zc 132 [(nth v0 1), v5] fun v6 => (a252x1 v0 v6)
theorem e252 : denFn prog f252 [] = a252 := by kernel_rfl
def a253x0 (v0 : List AV) : AC := zl (nth v0 2) fun v3 => .call v3 [] fun v4 => zs (nth v0 3) v4 fun v5 => zs (nth v0 1) (B true) fun v6 => zm []
def a253x1 (v8 v9 : AV) : AC := .ite v9 (.call (.fn (.method "By") [] []) [v8] fun b0 => zm [b0]) (zm [(U 0)])
def a253x2 (v0 : List AV) (b3 : AV) : AC := .ite b3 (zl (nth v0 4) fun b4 => zl (nth v0 3) fun b5 => .call b4 [b5] fun b6 => zm []) (zm [])
def a253x3 (v0 : List AV) (v5 : AV) (b0 : List AV) : AC := zt v5 (.load 1 false (nth v0 4)) fun b1 => zt v5 (.eq 360 true b1 Nf) fun b2 => zi v5 b2 (B false) fun b3 => .bind (a253x2 v0 b3) none (fun b4 => zr [v5, (nth b0 0)]) (fun b4 => [(B false), (U 0)])
def a253x4 (v0 : List AV) (v4 : AV) : AC := .call (.fn (.method "Step") [] []) [(.iface 291 v4), (nth v0 0)] fun v5 => zl (nth v0 3) fun v6 => .op (.tassert 263 true true (some Ni) (.iface 291 v6)) fun v7 => .op (.extract 0 v7) fun v8 => .op (.extract 1 v7) fun v9 => .bind (a253x1 v8 v9) none (fun b0 => (a253x3 v0 v5 b0)) (fun b0 => [(B false), (U 0)])
def a253 : List AV → AC := fun v0 => zl (nth v0 1) fun v1 => .op (.un .not v1) fun v2 => .bind (.ite v2 (a253x0 v0) (zm [])) none (fun v3 => zl (nth v0 3) fun v4 => (a253x4 v0 v4)) (fun v3 => [(B false), (U 0)])
theorem e253 : denFn prog f253 [9] = a253 := by kernel_rfl
def a254x0 (v0 : List AV) (v6 : AV) : AC := .ite v6 (zr [(B false)]) (zc 297 [] fun v7 => .op (.aidx 6 6 true v7 (nth v0 0)) fun v8 => .op (.aidx 6 1 false v8 (nth v0 1)) fun v9 => zr [v9])
def a254 : List AV → AC := fun v0 => zc 296 [(nth v0 0)] fun v1 => .op (.bin .eql v1 (.sc (.string ⟨#[110, 111, 110, 101]⟩))) fun v2 => zu v2 (.mv (nth v0 1)) fun v3 => .gcall v2 false (zF 296) [v3] fun v4 => zu v2 (.bin .eql v4 (.sc (.string ⟨#[110, 111, 110, 101]⟩))) fun v5 => zi v2 (B true) v5 fun v6 => (a254x0 v0 v6)
theorem e254 : denFn prog f254 [4] = a254 := by kernel_rfl
def a255x0 (v0 : List AV) (bi : AV) : AC := .ite bi (zn (nth v0 0) fun bj => zf 0 bj fun bk => zc 243 [bk, (I 11)] fun bl => zm []) (zm [])
def a255x1 (v0 : List AV) (b1 b4 bc bd be : AV) : AC := .gchk b4 true (.load 1 false bc) bd (zt b4 (.part 1 1 false be) fun bf => zt b4 (.bin .neq bf bd) fun bg => zu b1 (.pick b4 bg (B false)) fun bh => zi b1 (B true) bh fun bi => .bind (a255x0 v0 bi) none (fun bj => zr []) (fun bj => []))
def a255x2 (v0 : List AV) (b1 b4 b8 : AV) : AC := zt b4 (.load 1 false b8) fun b9 => zt b4 (.mv (nth v0 0)) fun ba => zt b4 (.nilchk ba) fun bb => zt b4 (.faddr 13 bb) fun bc => zt b4 (.load 1 false bc) fun bd => .gcall b4 true (zF 81) [b9] fun be => (a255x1 v0 b1 b4 bc bd be)
def a255x3 (v0 : List AV) (b1 b2 : AV) : AC := zu b1 (.bin .eql b2 (I 4)) fun b3 => zu b1 (.mv b3) fun b4 => zt b4 (.mv (nth v0 0)) fun b5 => zt b4 (.nilchk b5) fun b6 => zt b4 (.faddr 0 b6) fun b7 => zt b4 (.faddr 6 b7) fun b8 => (a255x2 v0 b1 b4 b8)
def a255x4 (v0 : List AV) (v6 : AV) : AC := zc 291 [v6, (nth v0 1)] fun v7 => zn (nth v0 0) fun v8 => zf 11 v8 fun v9 => zl v9 fun b0 => zb .neq v7 b0 fun b1 => zu b1 (.mv v7) fun b2 => (a255x3 v0 b1 b2)
def a255 : List AV → AC := fun v0 => zn (nth v0 0) fun v1 => zf 0 v1 fun v2 => zf 8 v2 fun v3 => .op (.store 1 v3 (.fn (.func 298) [(nth v0 0)] [])) fun v4 => zn (nth v0 0) fun v5 => zf 0 v5 fun v6 => (a255x4 v0 v6)
theorem e255 : denFn prog f255 [] = a255 := by kernel_rfl
def a256x0 (v0 : List AV) : AC := zl (nth v0 2) fun v3 => .call v3 [] fun v4 => zs (nth v0 3) v4 fun v5 => zs (nth v0 1) (B true) fun v6 => zm []
def a256x1 (v8 v9 : AV) : AC := .ite v9 (.call (.fn (.method "By") [] []) [v8] fun b0 => zm [b0]) (zm [(U 0)])
def a256x2 (v0 : List AV) (b3 : AV) : AC := .ite b3 (zl (nth v0 4) fun b4 => zl (nth v0 3) fun b5 => .call b4 [b5] fun b6 => zm []) (zm [])
def a256x3 (v0 : List AV) (v5 : AV) (b0 : List AV) : AC := zt v5 (.load 1 false (nth v0 4)) fun b1 => zt v5 (.eq 298 true b1 Nf) fun b2 => zi v5 b2 (B false) fun b3 => .bind (a256x2 v0 b3) none (fun b4 => zr [v5, (nth b0 0)]) (fun b4 => [(B false), (U 0)])
def a256x4 (v0 : List AV) (v4 : AV) : AC := .call (.fn (.method "Step") [] []) [(.iface 295 v4), (nth v0 0)] fun v5 => zl (nth v0 3) fun v6 => .op (.tassert 263 true true (some Ni) (.iface 295 v6)) fun v7 => .op (.extract 0 v7) fun v8 => .op (.extract 1 v7) fun v9 => .bind (a256x1 v8 v9) none (fun b0 => (a256x3 v0 v5 b0)) (fun b0 => [(B false), (U 0)])
def a256 : List AV → AC := fun v0 => zl (nth v0 1) fun v1 => .op (.un .not v1) fun v2 => .bind (.ite v2 (a256x0 v0) (zm [])) none (fun v3 => zl (nth v0 3) fun v4 => (a256x4 v0 v4)) (fun v3 => [(B false), (U 0)])
theorem e256 : denFn prog f256 [9] = a256 := by kernel_rfl
def a257x0 (v0 : List AV) (b2 : AV) : AC := .op (.store 1 b2 (.fn (.func 299) [(nth v0 0)] [])) fun b3 => zr []
def a257x1 (v0 : List AV) (v6 : AV) : AC := zn (nth v0 0) fun v7 => zf 7 v7 fun v8 => zs v8 v6 fun v9 => zn (nth v0 0) fun b0 => zf 0 b0 fun b1 => zf 4 b1 fun b2 => (a257x0 v0 b2)
def a257 : List AV → AC := fun v0 => zn (nth v0 0) fun v1 => zf 0 v1 fun v2 => zf 0 v2 fun v3 => zf 0 v3 fun v4 => zl v4 fun v5 => zc 132 [(nth v0 1), v5] fun v6 => (a257x1 v0 v6)
theorem e257 : denFn prog f257 [] = a257 := by kernel_rfl
def a258x0 (v7 : AV) : AC := .op (.eq 205 true v7 Nf) fun v8 => .ite v8 (zr [(I 14)]) (zm [(I 0)])
def a258x1 (v0 : List AV) (v3 : AV) : AC := .op (.un .not v3) fun v4 => .ite v4 (zr [(I 1)]) (zn (nth v0 0) fun v5 => zf 4 v5 fun v6 => zl v6 fun v7 => (a258x0 v7))
def a258 : List AV → AC := fun v0 => .bind (zn (nth v0 0) fun v1 => zf 5 v1 fun v2 => zl v2 fun v3 => (a258x1 v0 v3)) (some 0) (fun v1 => zn (nth v0 0) fun v2 => zf 6 v2 fun v3 => zl v3 fun v4 => zr [v4]) (fun v1 => [(nth v1 0)])
theorem e258 : denFn prog f258 [2] = a258 := by kernel_rfl
def a259x0 (v0 : List AV) : AC := zl (nth v0 2) fun v3 => .call v3 [] fun v4 => zs (nth v0 3) v4 fun v5 => zs (nth v0 1) (B true) fun v6 => zm []
def a259x1 (v8 v9 : AV) : AC := .ite v9 (.call (.fn (.method "By") [] []) [v8] fun b0 => zm [b0]) (zm [(U 0)])
def a259x2 (v0 : List AV) (b3 : AV) : AC := .ite b3 (zl (nth v0 4) fun b4 => zl (nth v0 3) fun b5 => .call b4 [b5] fun b6 => zm []) (zm [])
def a259x3 (v0 : List AV) (v5 : AV) (b0 : List AV) : AC := zt v5 (.load 1 false (nth v0 4)) fun b1 => zt v5 (.eq 304 true b1 Nf) fun b2 => zi v5 b2 (B false) fun b3 => .bind (a259x2 v0 b3) none (fun b4 => zr [v5, (nth b0 0)]) (fun b4 => [(B false), (U 0)])
def a259x4 (v0 : List AV) (v4 : AV) : AC := .call (.fn (.method "Step") [] []) [(.iface 300 v4), (nth v0 0)] fun v5 => zl (nth v0 3) fun v6 => .op (.tassert 263 true true (some Ni) (.iface 300 v6)) fun v7 => .op (.extract 0 v7) fun v8 => .op (.extract 1 v7) fun v9 => .bind (a259x1 v8 v9) none (fun b0 => (a259x3 v0 v5 b0)) (fun b0 => [(B false), (U 0)])
def a259 : List AV → AC := fun v0 => zl (nth v0 1) fun v1 => .op (.un .not v1) fun v2 => .bind (.ite v2 (a259x0 v0) (zm [])) none (fun v3 => zl (nth v0 3) fun v4 => (a259x4 v0 v4)) (fun v3 => [(B false), (U 0)])
theorem e259 : denFn prog f259 [9] = a259 := by kernel_rfl
def a260x0 (v0 : List AV) (b1 b2 : AV) : AC := zf 0 b2 fun b3 => zf 6 b3 fun b4 => zs b4 b1 fun b5 => zn (nth v0 0) fun b6 => zf 0 b6 fun b7 => zc 243 [b7, (I 0)] fun b8 => zr []
def a260x1 (v0 : List AV) (v5 v6 : AV) : AC := zf 0 v6 fun v7 => zf 5 v7 fun v8 => zl v8 fun v9 => zb .add v5 v9 fun b0 => zc 132 [(nth v0 1), b0] fun b1 => zn (nth v0 0) fun b2 => (a260x0 v0 b1 b2)
def a260 : List AV → AC := fun v0 => zn (nth v0 0) fun v1 => zf 0 v1 fun v2 => zf 0 v2 fun v3 => zf 1 v3 fun v4 => zl v4 fun v5 => zn (nth v0 0) fun v6 => (a260x1 v0 v5 v6)
theorem e260 : denFn prog f260 [] = a260 := by kernel_rfl
def a261x0 (v0 : List AV) : AC := zl (nth v0 2) fun v3 => .call v3 [] fun v4 => zs (nth v0 3) v4 fun v5 => zs (nth v0 1) (B true) fun v6 => zm []
def a261x1 (v8 v9 : AV) : AC := .ite v9 (.call (.fn (.method "By") [] []) [v8] fun b0 => zm [b0]) (zm [(U 0)])
def a261x2 (v0 : List AV) (b3 : AV) : AC := .ite b3 (zl (nth v0 4) fun b4 => zl (nth v0 3) fun b5 => .call b4 [b5] fun b6 => zm []) (zm [])
def a261x3 (v0 : List AV) (v5 : AV) (b0 : List AV) : AC := zt v5 (.load 1 false (nth v0 4)) fun b1 => zt v5 (.eq 309 true b1 Nf) fun b2 => zi v5 b2 (B false) fun b3 => .bind (a261x2 v0 b3) none (fun b4 => zr [v5, (nth b0 0)]) (fun b4 => [(B false), (U 0)])
def a261x4 (v0 : List AV) (v4 : AV) : AC := .call (.fn (.method "Step") [] []) [(.iface 306 v4), (nth v0 0)] fun v5 => zl (nth v0 3) fun v6 => .op (.tassert 263 true true (some Ni) (.iface 306 v6)) fun v7 => .op (.extract 0 v7) fun v8 => .op (.extract 1 v7) fun v9 => .bind (a261x1 v8 v9) none (fun b0 => (a261x3 v0 v5 b0)) (fun b0 => [(B false), (U 0)])
def a261 : List AV → AC := fun v0 => zl (nth v0 1) fun v1 => .op (.un .not v1) fun v2 => .bind (.ite v2 (a261x0 v0) (zm [])) none (fun v3 => zl (nth v0 3) fun v4 => (a261x4 v0 v4)) (fun v3 => [(B false), (U 0)])
theorem e261 : denFn prog f261 [9] = a261 := by kernel_rfl
def a262x0 (v5 b7 : AV) : AC := .ite b7 (zf 18 v5 fun b8 => zs b8 (I 3) fun b9 => zm []) (zm [])
def a262x1 (v5 b0 b1 b3 : AV) : AC := zu b0 (.faddr 2 b3) fun b4 => zu b0 (.load 1 false b4) fun b5 => zu b0 (.bin .geq b1 b5) fun b6 => zi b0 (B true) b6 fun b7 => .bind (a262x0 v5 b7) none (fun b8 => zm []) (fun b8 => [])
def a262x2 (v0 : List AV) (v1 v5 v9 : AV) : AC := .ite v9 (zf 18 v5 fun b0 => zs b0 (I 2) fun b1 => zm []) (zb .lss (nth v0 1) (I 0) fun b0 => zu b0 (.mv (nth v0 1)) fun b1 => zu b0 (.faddr 3 v1) fun b2 => zu b0 (.faddr 6 b2) fun b3 => (a262x1 v5 b0 b1 b3))
def a262x3 (v0 : List AV) (v1 v5 : AV) : AC := .op (.load 13 true v1) fun v7 => zc 29 [v7, (I 0), (I 0)] fun v8 => zb .lss v8 (I 0) fun v9 => .bind (a262x2 v0 v1 v5 v9) none (fun b0 => zm []) (fun b0 => [])
def a262x4 (v2 v5 : AV) : AC := .op (.load 19 true v5) fun v8 => .op (.store 19 v2 v8) fun v9 => zr [v2]
def a262x5 (v0 : List AV) (v1 v2 v3 : AV) : AC := .op (.build [(I 0), (I 0), (I 0), (I 0), (I 0), (I 0), (I 0), (I 0), (I 0), (I 0), (I 0), (I 0), (I 0), (I 0), (B false), (I 0), Ns, (U 0), (I 0)] [(0, 13, v3), (13, 1, (nth v0 1)), (14, 1, (B true))]) fun v4 => .op (.alloc [(I 0), (I 0), (I 0), (I 0), (I 0), (I 0), (I 0), (I 0), (I 0), (I 0), (I 0), (I 0), (I 0), (I 0), (B false), (I 0), Ns, (U 0), (I 0)]) fun v5 => .op (.store 19 v5 v4) fun v6 => .bind (a262x3 v0 v1 v5) (some 0) (fun v7 => (a262x4 v2 v5)) (fun v7 => [v2])
def a262 : List AV → AC := fun v0 => .fin (.op (.box (nth v0 0)) fun v1 => .op (.alloc [(I 0), (I 0), (I 0), (I 0), (I 0), (I 0), (I 0), (I 0), (I 0), (I 0), (I 0), (I 0), (I 0), (I 0), (B false), (I 0), Ns, (U 0), (I 0)]) fun v2 => .op (.load 13 true v1) fun v3 => (a262x5 v0 v1 v2 v3)) fun v1 => .op (.load 19 true (nth v1 0)) fun v2 => zr [v2]
theorem e262 : denFn prog f262 [] = a262 := by kernel_rfl
def a263 : List AV → AC := fun v0 => .op (.box (nth v0 0)) fun v1 => .op (.build [Nf, Nf, Nf, Np, (B false)] [(0, 1, (.fn (.func 300) [] [v1])), (2, 1, (.fn (.func 302) [] [v1]))]) fun v2 => .op (.box v2) fun v3 => zr [(.iface 421 v3)]
theorem e263 : denFn prog f263 [] = a263 := by kernel_rfl
def a264 : List AV → AC := fun v0 => .op (.box (nth v0 0)) fun v1 => zl v1 fun v2 => .op (.build [Nf, Nf, Nf, Np, (B false)] [(0, 1, (.fn (.func 304) [] [v1])), (2, 1, (.fn (.func 306) [v2] []))]) fun v3 => .op (.box v3) fun v4 => zr [(.iface 429 v4)]
theorem e264 : denFn prog f264 [] = a264 := by kernel_rfl
def a265x0 (v7 : AV) : AC := .op (.len false v7) fun v8 => zb .gtr v8 (I 0) fun v9 => .ite v9 (zr [(I 14)]) (zm [(I 0)])
def a265x1 (v0 : List AV) (v3 : AV) : AC := .op (.un .not v3) fun v4 => .ite v4 (zr [(I 1)]) (zn (nth v0 0) fun v5 => zf 16 v5 fun v6 => zl v6 fun v7 => (a265x0 v7))
def a265 : List AV → AC := fun v0 => .bind (zn (nth v0 0) fun v1 => zf 14 v1 fun v2 => zl v2 fun v3 => (a265x1 v0 v3)) (some 0) (fun v1 => zn (nth v0 0) fun v2 => zf 18 v2 fun v3 => zl v3 fun v4 => zr [v4]) (fun v1 => [(nth v1 0)])
theorem e265 : denFn prog f265 [2] = a265 := by kernel_rfl
def a266 : List AV → AC := fun v0 => .op (.conv .u64 (nth v0 0)) fun v1 => zb .shl v1 (U 32) fun v2 => zr [v2]
theorem e266 : denFn prog f266 [] = a266 := by kernel_rfl
def a267x0 (b2 : AV) : AC := zc 251 [b2, (I 0)] fun b3 => zr []
def a267x1 (v0 : List AV) (v5 v6 : AV) : AC := zf 7 v6 fun v7 => zl v7 fun v8 => zb .add v8 (U 1) fun v9 => zc 76 [(nth v0 1), v5, v9] fun b0 => zn (nth v0 0) fun b1 => zf 0 b1 fun b2 => (a267x0 b2)
def a267 : List AV → AC := fun v0 => zn (nth v0 0) fun v1 => zf 0 v1 fun v2 => zf 0 v2 fun v3 => zf 0 v3 fun v4 => zl v4 fun v5 => zn (nth v0 0) fun v6 => (a267x1 v0 v5 v6)
theorem e267 : denFn prog f267 [] = a267 := by kernel_rfl
def a268x0 (v0 : List AV) : AC := zl (nth v0 2) fun v3 => .call v3 [] fun v4 => zs (nth v0 3) v4 fun v5 => zs (nth v0 1) (B true) fun v6 => zm []
def a268x1 (v8 v9 : AV) : AC := .ite v9 (.call (.fn (.method "By") [] []) [v8] fun b0 => zm [b0]) (zm [(U 0)])
def a268x2 (v0 : List AV) (b3 : AV) : AC := .ite b3 (zl (nth v0 4) fun b4 => zl (nth v0 3) fun b5 => .call b4 [b5] fun b6 => zm []) (zm [])
def a268x3 (v0 : List AV) (v5 : AV) (b0 : List AV) : AC := zt v5 (.load 1 false (nth v0 4)) fun b1 => zt v5 (.eq 379 true b1 Nf) fun b2 => zi v5 b2 (B false) fun b3 => .bind (a268x2 v0 b3) none (fun b4 => zr [v5, (nth b0 0)]) (fun b4 => [(B false), (U 0)])
def a268x4 (v0 : List AV) (v4 : AV) : AC := .call (.fn (.method "Step") [] []) [(.iface 317 v4), (nth v0 0)] fun v5 => zl (nth v0 3) fun v6 => .op (.tassert 263 true true (some Ni) (.iface 317 v6)) fun v7 => .op (.extract 0 v7) fun v8 => .op (.extract 1 v7) fun v9 => .bind (a268x1 v8 v9) none (fun b0 => (a268x3 v0 v5 b0)) (fun b0 => [(B false), (U 0)])
def a268 : List AV → AC := fun v0 => zl (nth v0 1) fun v1 => .op (.un .not v1) fun v2 => .bind (.ite v2 (a268x0 v0) (zm [])) none (fun v3 => zl (nth v0 3) fun v4 => (a268x4 v0 v4)) (fun v3 => [(B false), (U 0)])
theorem e268 : denFn prog f268 [9] = a268 := by kernel_rfl
def a269x0 (bf bi : AV) : AC := zs bi bf fun bj => zm []
def a269x1 (v6 b4 b9 bc bd : AV) : AC := zc 278 [bc] fun be => .chk (.load 1 false v6) b4 (.op (.bslice 1 3 [Ni] [(0, 1, bd), (1, 1, (.iface 438 b9)), (2, 1, be)]) fun bf => zn b4 fun bg => zf 0 bg fun bh => zf 16 bh fun bi => (a269x0 bf bi))
def a269x2 (v6 b4 b7 b9 : AV) : AC := zl v6 fun ba => zn ba fun bb => zf 0 bb fun bc => zc 263 [b7] fun bd => .chk (.load 1 false v6) b4 (.chk (.load 1 false v6) ba (a269x1 v6 b4 b9 bc bd))
def a269x3 (v1 v6 : AV) : AC := zl v6 fun b4 => zl v6 fun b5 => zn b5 fun b6 => zf 0 b6 fun b7 => .op (.build [Nf, Nf, Nf, Np, (B false)] [(0, 1, (.fn (.func 307) [] [v1])), (1, 1, (zF 309)), (2, 1, (.fn (.func 310) [] [v6]))]) fun b8 => .op (.box b8) fun b9 => (a269x2 v6 b4 b7 b9)
def a269x4 (v1 v6 b2 : AV) : AC := zb .eql b2 (I 0) fun b3 => .bind (.ite b3 (a269x3 v1 v6) (zm [])) none (fun b4 => zl v6 fun b5 => zr [b5]) (fun b4 => [Np])
def a269x5 (v1 v5 v6 : AV) : AC := zs v6 v5 fun v7 => zl v6 fun v8 => zn v8 fun v9 => zf 0 v9 fun b0 => zf 18 b0 fun b1 => zl b1 fun b2 => (a269x4 v1 v6 b2)
def a269 : List AV → AC := fun v0 => .op (.box (nth v0 0)) fun v1 => .op (.load 13 true v1) fun v2 => zc 262 [v2, (nth v0 1)] fun v3 => .op (.build [(I 0), (I 0), (I 0), (I 0), (I 0), (I 0), (I 0), (I 0), (I 0), (I 0), (I 0), (I 0), (I 0), (I 0), (B false), (I 0), Ns, (U 0), (I 0), (U 0), (I 0), (I 0)] [(0, 19, v3)]) fun v4 => .op (.box v4) fun v5 => .op (.alloc [Np]) fun v6 => (a269x5 v1 v5 v6)
theorem e269 : denFn prog f269 [] = a269 := by kernel_rfl
def a270x0 (v1 : AV) : AC := .op (.build [(U 0), (I 0)] []) fun v3 => .op (.store 2 v1 v3) fun v4 => zr [v1, (I 1)]
def a270x1 (v1 v8 : AV) : AC := .op (.extract 0 v8) fun v9 => .op (.extract 1 v8) fun b0 => .op (.store 2 v1 v9) fun b1 => zr [v1, b0]
def a270x2 (v0 : List AV) (v1 : AV) : AC := zn (nth v0 0) fun v3 => zf 19 v3 fun v4 => .op (.load 3 true v4) fun v5 => zn (nth v0 0) fun v6 => zf 0 v6 fun v7 => zc 312 [v5, v7] fun v8 => (a270x1 v1 v8)
def a270 : List AV → AC := fun v0 => .fin (.op (.alloc [(U 0), (I 0)]) fun v1 => .op (.eq 382 false (nth v0 0) Np) fun v2 => .ite v2 (a270x0 v1) (a270x2 v0 v1)) fun v1 => .op (.load 2 true (nth v1 0)) fun v2 => zr [v2, (nth v1 1)]
theorem e270 : denFn prog f270 [3] = a270 := by kernel_rfl
def a271 : List AV → AC := fun v0 => zn (nth v0 0) fun v1 => zf 12 v1 fun v2 => zs v2 (B true) fun v3 => zn (nth v0 0) fun v4 => zf 13 v4 fun v5 => zs v5 (nth v0 1) fun v6 => zr []
theorem e271 : denFn prog f271 [] = a271 := by kernel_rfl
def a272x0 (v0 : List AV) : AC := zl (nth v0 2) fun v3 => .call v3 [] fun v4 => zs (nth v0 3) v4 fun v5 => zs (nth v0 1) (B true) fun v6 => zm []
def a272x1 (v8 v9 : AV) : AC := .ite v9 (.call (.fn (.method "By") [] []) [v8] fun b0 => zm [b0]) (zm [(U 0)])
def a272x2 (v0 : List AV) (b3 : AV) : AC := .ite b3 (zl (nth v0 4) fun b4 => zl (nth v0 3) fun b5 => .call b4 [b5] fun b6 => zm []) (zm [])
def a272x3 (v0 : List AV) (v5 : AV) (b0 : List AV) : AC := zt v5 (.load 1 false (nth v0 4)) fun b1 => zt v5 (.eq 324 true b1 Nf) fun b2 => zi v5 b2 (B false) fun b3 => .bind (a272x2 v0 b3) none (fun b4 => zr [v5, (nth b0 0)]) (fun b4 => [(B false), (U 0)])
def a272x4 (v0 : List AV) (v4 : AV) : AC := .call (.fn (.method "Step") [] []) [(.iface 321 v4), (nth v0 0)] fun v5 => zl (nth v0 3) fun v6 => .op (.tassert 263 true true (some Ni) (.iface 321 v6)) fun v7 => .op (.extract 0 v7) fun v8 => .op (.extract 1 v7) fun v9 => .bind (a272x1 v8 v9) none (fun b0 => (a272x3 v0 v5 b0)) (fun b0 => [(B false), (U 0)])
def a272 : List AV → AC := fun v0 => zl (nth v0 1) fun v1 => .op (.un .not v1) fun v2 => .bind (.ite v2 (a272x0 v0) (zm [])) none (fun v3 => zl (nth v0 3) fun v4 => (a272x4 v0 v4)) (fun v3 => [(B false), (U 0)])
theorem e272 : denFn prog f272 [9] = a272 := by kernel_rfl
def a273 : List AV → AC := fun v0 => .op (.load 13 true (nth v0 0)) fun v1 => zc 274 [v1] fun v2 => zr [v2]
theorem e273 : denFn prog f273 [] = a273 := by kernel_rfl
def a274 : List AV → AC := fun v0 => .op (.box (nth v0 0)) fun v1 => .op (.load 13 true v1) fun v2 => zc 313 [v2] fun v3 => .op (.build [(I 0), (I 0), (I 0), (I 0), (I 0), (I 0), (I 0), (I 0), (I 0), (I 0), (I 0), (I 0), (I 0), (I 0), (B false), Np, Np, (I 0), (U 0), (I 0), (U 0), (U 0), (I 0), (U 0), (B false), (I 0)] [(0, 26, v3)]) fun v4 => .op (.box v4) fun v5 => zr [v5]
theorem e274 : denFn prog f274 [] = a274 := by kernel_rfl
def a275x0 (v4 : AV) : AC := zl v4 fun v5 => zr [v5]
def a275 : List AV → AC := fun v0 => .op (.eq 395 false (nth v0 0) Np) fun v1 => .ite v1 (zr [(U 0)]) (zn (nth v0 0) fun v2 => zf 0 v2 fun v3 => zf 23 v3 fun v4 => (a275x0 v4))
theorem e275 : denFn prog f275 [2] = a275 := by kernel_rfl
def a276x0 (v2 v5 : AV) : AC := zn v2 fun b0 => zf 19 b0 fun b1 => zf 2 b1 fun b2 => zs b2 v5 fun b3 => zr []
def a276x1 (v0 : List AV) (v1 v2 v3 v4 : AV) : AC := .op (.extract 1 v3) fun v5 => zn v1 fun v6 => zf 19 v6 fun v7 => zf 0 v7 fun v8 => .op (.store 2 v8 v4) fun v9 => .chk (.load 1 false (nth v0 1)) v2 (a276x0 v2 v5)
def a276 : List AV → AC := fun v0 => zl (nth v0 1) fun v1 => zl (nth v0 1) fun v2 => zc 277 [(nth v0 0)] fun v3 => .chk (.load 1 false (nth v0 1)) v1 (.chk (.load 1 false (nth v0 1)) v2 (.op (.extract 0 v3) fun v4 => (a276x1 v0 v1 v2 v3 v4)))
theorem e276 : denFn prog f276 [] = a276 := by kernel_rfl
def a277x0 (v1 : AV) : AC := .op (.build [(U 0), (I 0)] []) fun v3 => .op (.store 2 v1 v3) fun v4 => zr [v1, (I 1)]
def a277x1 (v0 : List AV) (v1 : AV) : AC := zn (nth v0 0) fun v3 => zf 0 v3 fun v4 => zc 314 [v4] fun v5 => .op (.extract 0 v5) fun v6 => .op (.extract 1 v5) fun v7 => .op (.store 2 v1 v6) fun v8 => zr [v1, v7]
def a277 : List AV → AC := fun v0 => .fin (.op (.alloc [(U 0), (I 0)]) fun v1 => .op (.eq 395 false (nth v0 0) Np) fun v2 => .ite v2 (a277x0 v1) (a277x1 v0 v1)) fun v1 => .op (.load 2 true (nth v1 0)) fun v2 => zr [v2, (nth v1 1)]
theorem e277 : denFn prog f277 [3] = a277 := by kernel_rfl
def a278 : List AV → AC := fun v0 => .op (.box (nth v0 0)) fun v1 => .op (.build [Nf, Nf, Nf, Np, (B false)] [(0, 1, (.fn (.func 315) [] [v1]))]) fun v2 => .op (.box v2) fun v3 => zr [(.iface 457 v3)]
theorem e278 : denFn prog f278 [] = a278 := by kernel_rfl
def a279x0 (v1 : AV) : AC := .op (.build [(U 0), (I 0)] []) fun v3 => .op (.store 2 v1 v3) fun v4 => zr [v1, (I 1)]
def a279x1 (v1 v8 : AV) : AC := .op (.extract 0 v8) fun v9 => .op (.extract 1 v8) fun b0 => .op (.store 2 v1 v9) fun b1 => zr [v1, b0]
def a279x2 (v0 : List AV) (v1 : AV) : AC := zn (nth v0 0) fun v3 => zf 19 v3 fun v4 => .op (.load 3 true v4) fun v5 => zn (nth v0 0) fun v6 => zf 0 v6 fun v7 => zc 312 [v5, v7] fun v8 => (a279x1 v1 v8)
def a279 : List AV → AC := fun v0 => .fin (.op (.alloc [(U 0), (I 0)]) fun v1 => .op (.eq 321 false (nth v0 0) Np) fun v2 => .ite v2 (a279x0 v1) (a279x2 v0 v1)) fun v1 => .op (.load 2 true (nth v1 0)) fun v2 => zr [v2, (nth v1 1)]
theorem e279 : denFn prog f279 [3] = a279 := by kernel_rfl
def a280x0 (v0 : List AV) (v4 : AV) : AC := .op (.bin .add v4 (I 1)) fun v5 => .op (.store 1 (nth v0 0) v5) fun v6 => .op (.load 1 false (nth v0 2)) fun v7 => .op (.load 1 false (nth v0 0)) fun v8 => .op (.bin .add v7 v8) fun v9 => .op (.bin .sub v9 (I 1)) fun b0 => .ret .ret [b0]
def a280 : List AV → AC := fun v0 => .op (.load 1 false (nth v0 0)) fun v1 => .op (.load 1 false (nth v0 1)) fun v2 => .op (.bin .geq v1 v2) fun v3 => .ite v3 (.ret .ret [(I (-1))]) (.op (.load 1 false (nth v0 0)) fun v4 => (a280x0 v0 v4))
theorem e280 : denFn prog f280 [3] = a280 := by kernel_rfl
def a281x0 (v5 v6 : AV) : AC := .gop v5 true (.faddr 2 v6) fun v7 => .gop v5 true (.load 1 false v7) fun v8 => .gop v5 true (.bin .leq v8 (I 4096)) fun v9 => .op (.pick v5 v9 (B false)) fun b0 => .ret .ret [b0]
def a281 : List AV → AC := fun v0 => .op (.box (nth v0 0)) fun v1 => .op (.faddr 0 v1) fun v2 => .op (.faddr 2 v2) fun v3 => .op (.load 1 false v3) fun v4 => .op (.bin .geq v4 (I 1)) fun v5 => .gop v5 true (.faddr 0 v1) fun v6 => (a281x0 v5 v6)
theorem e281 : denFn prog f281 [] = a281 := by kernel_rfl
def a282 : List AV → AC := fun v0 => .op (.box (nth v0 0)) fun v1 => .ret .ret [(.fn (.func 317) [] [v1])]
theorem e282 : denFn prog f282 [] = a282 := by kernel_rfl
def a283x0 (v1 b4 b6 : AV) : AC := .op (.bin .add b6 (I 1)) fun b7 => .op (.faddr 1 v1) fun b8 => .op (.load 1 false b8) fun b9 => .op (.bslice 1 2 [(I 0)] [(0, 1, b7), (1, 1, b9)]) fun ba => .call (.fn (.func 177) [] []) [b4, ba] fun bb => .ret .ret [bb, (I 0)]
def a283x1 (v1 : AV) : AC := .call (.fn (.func 284) [] []) [] fun b1 => .op (.alloc [(I 0), (I 0), (I 0), (I 0)]) fun b2 => .op (.store 4 b2 b1) fun b3 => .op (.aslice 2 2 b2 none none none) fun b4 => .op (.faddr 0 v1) fun b5 => .op (.load 1 false b5) fun b6 => (a283x0 v1 b4 b6)
def a283x2 (v1 v4 v6 : AV) : AC := .op (.build [(I 0), (I 0), (I 0)] [(0, 1, v6), (1, 1, (I 0)), (2, 1, (I 281474976710655))]) fun v7 => .op (.bslice 3 2 [(I 0), (I 0), (I 0)] [(0, 3, v4), (3, 3, v7)]) fun v8 => .call (.fn (.func 176) [] []) [v8] fun v9 => .op (.un .not v9) fun b0 => .ite b0 (.ret .ret [(U 0), (I 3)]) (a283x1 v1)
def a283 : List AV → AC := fun v0 => .op (.box (nth v0 0)) fun v1 => .op (.faddr 0 v1) fun v2 => .op (.load 1 false v2) fun v3 => .op (.build [(I 0), (I 0), (I 0)] [(0, 1, v3), (1, 1, (I (-1))), (2, 1, (I 65534))]) fun v4 => .op (.faddr 1 v1) fun v5 => .op (.load 1 false v5) fun v6 => (a283x2 v1 v4 v6)
theorem e283 : denFn prog f283 [2, 3] = a283 := by kernel_rfl
def a284x0 (v1 v2 v3 : AV) : AC := .op (.build [(I 0), (I 0), (I 0), (I 0)] [(0, 2, v2), (2, 2, v3)]) fun v4 => .op (.store 4 v1 v4) fun v5 => .ret .ret [v1]
def a284 : List AV → AC := fun v0 => .fin (.op (.alloc [(I 0), (I 0), (I 0), (I 0)]) fun v1 => .op (.build [(I 0), (I 0)] [(0, 1, (I 0)), (1, 1, (I 16))]) fun v2 => .op (.build [(I 0), (I 0)] [(0, 1, (I 16)), (1, 1, (I 48))]) fun v3 => (a284x0 v1 v2 v3)) fun v1 => .op (.load 4 true (nth v1 0)) fun v2 => .ret .ret [v2]
theorem e284 : denFn prog f284 [] = a284 := by kernel_rfl
def a285x0 (v0 : List AV) (v3 v6 : AV) : AC := .op (.load 3 true v3) fun v7 => zc 152 [(nth v0 0), (I 3), (nth v0 1), v6, (.fn (.func 318) [v7] [])] fun v8 => .op (.part 4 1 false v8) fun v9 => zr [v9]
def a285 : List AV → AC := fun v0 => zc 151 [(nth v0 0), (nth v0 1)] fun v1 => .op (.build [Np, (U 0), (U 0)] [(0, 1, v1), (1, 1, (nth v0 2)), (2, 1, (nth v0 3))]) fun v2 => .op (.alloc [Np, (U 0), (U 0)]) fun v3 => .op (.store 3 v3 v2) fun v4 => zf 0 v3 fun v5 => zl v5 fun v6 => (a285x0 v0 v3 v6)
theorem e285 : denFn prog f285 [] = a285 := by kernel_rfl
def a286x0 (v0 : List AV) (b6 b7 : AV) : AC := zf 0 b7 fun b8 => zf 5 b8 fun b9 => zs b9 b6 fun ba => zn (nth v0 0) fun bb => zf 9 bb fun bc => .op (.store 1 bc (zF 320)) fun bd => zr []
def a286x1 (v0 : List AV) (v3 v4 v9 b2 : AV) : AC := zl b2 fun b3 => zb .add v9 b3 fun b4 => zc 132 [(nth v0 1), b4] fun b5 => .chk (.load 3 true v3) v4 (zc 319 [v4, b5] fun b6 => zn (nth v0 0) fun b7 => (a286x0 v0 b6 b7))
def a286x2 (v0 : List AV) (v3 v4 v6 : AV) : AC := zf 0 v6 fun v7 => zf 1 v7 fun v8 => zl v8 fun v9 => zn (nth v0 0) fun b0 => zf 0 b0 fun b1 => zf 4 b1 fun b2 => (a286x1 v0 v3 v4 v9 b2)
def a286 : List AV → AC := fun v0 => zn (nth v0 0) fun v1 => zf 0 v1 fun v2 => zf 0 v2 fun v3 => .op (.load 3 true v3) fun v4 => zn (nth v0 0) fun v5 => zf 0 v5 fun v6 => (a286x2 v0 v3 v4 v6)
theorem e286 : denFn prog f286 [] = a286 := by kernel_rfl
def a287x0 (b1 b2 : AV) : AC := zf 3 b2 fun b3 => zl b3 fun b4 => zc 319 [b1, b4] fun b5 => zr [b5]
def a287x1 (v0 : List AV) (v5 v6 : AV) : AC := zf 3 v6 fun v7 => zs v7 v5 fun v8 => zn (nth v0 0) fun v9 => zf 0 v9 fun b0 => .op (.load 3 true b0) fun b1 => zn (nth v0 0) fun b2 => (a287x0 b1 b2)
def a287 : List AV → AC := fun v0 => zn (nth v0 0) fun v1 => zf 0 v1 fun v2 => zf 0 v2 fun v3 => zl v3 fun v4 => zc 132 [(nth v0 1), v4] fun v5 => zn (nth v0 0) fun v6 => (a287x1 v0 v5 v6)
theorem e287 : denFn prog f287 [] = a287 := by kernel_rfl
def a288 : List AV → AC := fun v0 => zn (nth v0 0) fun v1 => zf 7 v1 fun v2 => zs v2 (B true) fun v3 => zn (nth v0 0) fun v4 => zf 8 v4 fun v5 => zs v5 (nth v0 1) fun v6 => zr []
theorem e288 : denFn prog f288 [] = a288 := by kernel_rfl
def a289x0 (v0 : List AV) (v1 v6 : AV) : AC := zi v1 (B true) v6 fun v7 => zu v7 (.mv (nth v0 0)) fun v8 => zu v7 (.nilchk v8) fun v9 => zu v7 (.faddr 7 v9) fun b0 => zu v7 (.load 1 false b0) fun b1 => zi v7 (B true) b1 fun b2 => zr [b2]
def a289 : List AV → AC := fun v0 => .op (.eq 466 false (nth v0 0) Np) fun v1 => zu v1 (.mv (nth v0 0)) fun v2 => zu v1 (.nilchk v2) fun v3 => zu v1 (.faddr 6 v3) fun v4 => zu v1 (.load 1 false v4) fun v5 => zu v1 (.un .not v5) fun v6 => (a289x0 v0 v1 v6)
theorem e289 : denFn prog f289 [] = a289 := by kernel_rfl
def a290x0 (v4 : AV) : AC := zl v4 fun v5 => zr [v5, (I 0)]
def a290 : List AV → AC := fun v0 => zc 321 [(nth v0 0)] fun v1 => zb .neq v1 (I 0) fun v2 => .ite v2 (zr [(I 0), v1]) (zn (nth v0 0) fun v3 => zf 4 v3 fun v4 => (a290x0 v4))
theorem e290 : denFn prog f290 [2, 3] = a290 := by kernel_rfl
def a291x0 (v0 : List AV) : AC := zn (nth v0 0) fun b3 => zf 6 b3 fun b4 => zl b4 fun b5 => zc 81 [b5] fun b6 => .op (.part 0 1 false b6) fun b7 => zr [b7]
def a291x1 (v0 : List AV) (v4 v6 : AV) : AC := zl v6 fun v7 => zb .add v4 v7 fun v8 => zc 132 [(nth v0 1), v8] fun v9 => zn (nth v0 0) fun b0 => zf 6 b0 fun b1 => zs b1 v9 fun b2 => (a291x0 v0)
def a291 : List AV → AC := fun v0 => zn (nth v0 0) fun v1 => zf 0 v1 fun v2 => zf 0 v2 fun v3 => zl v3 fun v4 => zn (nth v0 0) fun v5 => zf 5 v5 fun v6 => (a291x1 v0 v4 v6)
theorem e291 : denFn prog f291 [] = a291 := by kernel_rfl
def a292x0 (v0 : List AV) : AC := zn (nth v0 0) fun v8 => zf 0 v8 fun v9 => zc 243 [v9, (I 0)] fun b0 => zm []
def a292x1 (v0 : List AV) (v6 : AV) : AC := zc 322 [v6, (nth v0 1), (I 2), (I 0), (I 1)] fun v7 => .bind (.ite v7 (a292x0 v0) (zm [])) none (fun v8 => zr []) (fun v8 => [])
def a292 : List AV → AC := fun v0 => zn (nth v0 0) fun v1 => zf 0 v1 fun v2 => zf 8 v2 fun v3 => .op (.store 1 v3 (.fn (.func 242) [(nth v0 0)] [])) fun v4 => zn (nth v0 0) fun v5 => zf 0 v5 fun v6 => (a292x1 v0 v6)
theorem e292 : denFn prog f292 [] = a292 := by kernel_rfl
def a293x0 (v0 : List AV) (v3 v6 : AV) : AC := zs v6 v3 fun v7 => zn (nth v0 0) fun v8 => zf 9 v8 fun v9 => .op (.store 1 v9 (zF 323)) fun b0 => zr []
def a293 : List AV → AC := fun v0 => zn (nth v0 0) fun v1 => zf 0 v1 fun v2 => zc 287 [v2, (nth v0 1)] fun v3 => zn (nth v0 0) fun v4 => zf 0 v4 fun v5 => zf 5 v5 fun v6 => (a293x0 v0 v3 v6)
theorem e293 : denFn prog f293 [] = a293 := by kernel_rfl
def a294x0 (v0 : List AV) : AC := zn (nth v0 0) fun v8 => zf 0 v8 fun v9 => zf 8 v9 fun b0 => .op (.store 1 b0 (.fn (.func 324) [(nth v0 0)] [])) fun b1 => zm []
def a294x1 (v0 : List AV) (v6 : AV) : AC := zc 322 [v6, (nth v0 1), (I 1), (I 0), (I 0)] fun v7 => .bind (.ite v7 (a294x0 v0) (zm [])) none (fun v8 => zr []) (fun v8 => [])
def a294 : List AV → AC := fun v0 => zn (nth v0 0) fun v1 => zf 0 v1 fun v2 => zf 8 v2 fun v3 => .op (.store 1 v3 (.fn (.func 247) [(nth v0 0)] [])) fun v4 => zn (nth v0 0) fun v5 => zf 0 v5 fun v6 => (a294x1 v0 v6)
theorem e294 : denFn prog f294 [] = a294 := by kernel_rfl
def a295x0 (v0 : List AV) : AC := zn (nth v0 0) fun bk => zf 0 bk fun bl => zc 251 [bl, (I 7)] fun bm => zm []
def a295x1 (v0 : List AV) : AC := zn (nth v0 0) fun bk => zf 0 bk fun bl => zf 4 bl fun bm => .op (.store 1 bm (.fn (.func 327) [(nth v0 0)] [])) fun bn => zm []
def a295x2 (v0 : List AV) (bh bi : AV) : AC := zc 234 [bh, bi] fun bj => .bind (.ite bj (a295x0 v0) (a295x1 v0)) none (fun bk => zm []) (fun bk => [])
def a295x3 (v0 : List AV) (ba be : AV) : AC := .ite be (zn (nth v0 0) fun bf => zf 0 bf fun bg => zf 4 bg fun bh => .op (.store 1 bh (.fn (.func 326) [(nth v0 0)] [])) fun bi => zm []) (zn (nth v0 0) fun bf => zf 9 bf fun bg => zl bg fun bh => .op (.bin .sub ba (.sc (.int .u32 1))) fun bi => (a295x2 v0 bh bi))
def a295x4 (v0 : List AV) (ba bb : AV) : AC := zf 9 bb fun bc => zl bc fun bd => zc 325 [bd, ba] fun be => .bind (a295x3 v0 ba be) none (fun bf => zm []) (fun bf => [])
def a295x5 (v0 : List AV) (b6 b8 : AV) : AC := zl b8 fun b9 => zc 235 [b6, b9] fun ba => .bind (zn (nth v0 0) fun bb => (a295x4 v0 ba bb)) (some 0) (fun bb => zr []) (fun bb => [])
def a295x6 (v0 : List AV) : AC := zn (nth v0 0) fun b3 => zf 0 b3 fun b4 => zf 0 b4 fun b5 => .op (.load 4 true b5) fun b6 => zn (nth v0 0) fun b7 => zf 8 b7 fun b8 => (a295x5 v0 b6 b8)
def a295x7 (v0 : List AV) (v4 v6 : AV) : AC := zl v6 fun v7 => zc 159 [v4, v7] fun v8 => zc 132 [(nth v0 1), v8] fun v9 => zn (nth v0 0) fun b0 => zf 9 b0 fun b1 => zs b1 v9 fun b2 => (a295x6 v0)
def a295 : List AV → AC := fun v0 => zn (nth v0 0) fun v1 => zf 0 v1 fun v2 => zf 0 v2 fun v3 => .op (.load 4 true v3) fun v4 => zn (nth v0 0) fun v5 => zf 8 v5 fun v6 => (a295x7 v0 v4 v6)
theorem e295 : denFn prog f295 [] = a295 := by kernel_rfl
def a296x0 (v0 : List AV) : AC := .op (.build [(.sc (.string ⟨#[]⟩)), (.sc (.string ⟨#[]⟩)), (.sc (.string ⟨#[]⟩)), (.sc (.string ⟨#[]⟩)), (.sc (.string ⟨#[]⟩)), (.sc (.string ⟨#[]⟩))] [(0, 1, (.sc (.string ⟨#[]⟩))), (1, 1, (.sc (.string ⟨#[102, 114, 101, 101]⟩))), (2, 1, (.sc (.string ⟨#[114, 101, 108, 101, 97, 115, 101, 100]⟩))), (3, 1, (.sc (.string ⟨#[114, 101, 97, 100, 121]⟩))), (4, 1, (.sc (.string ⟨#[99, 108, 97, 105, 109, 101, 100]⟩))), (5, 1, (.sc (.string ⟨#[100, 111, 110, 101]⟩)))]) fun v5 => .op (.aidx 6 1 false v5 (nth v0 0)) fun v6 => zr [v6]
def a296 : List AV → AC := fun v0 => zb .lss (nth v0 0) (I 1) fun v1 => zu v1 (.mv (nth v0 0)) fun v2 => zu v1 (.bin .gtr v2 (I 5)) fun v3 => zi v1 (B true) v3 fun v4 => .ite v4 (zr [(.sc (.string ⟨#[110, 111, 110, 101]⟩))]) (a296x0 v0)
theorem e296 : denFn prog f296 [2] = a296 := by kernel_rfl
def a297x0 (v1 v2 v3 : AV) : AC := .op (.build [(B false), (B false), (B false), (B false), (B false), (B false)] [(3, 1, (B true)), (5, 1, (B true))]) fun v4 => .op (.build (List.replicate 36 (B false)) [(12, 6, v2), (18, 6, v3), (24, 6, v4)]) fun v5 => .op (.store 36 v1 v5) fun v6 => zr [v1]
def a297 : List AV → AC := fun v0 => .fin (.op (.alloc (List.replicate 36 (B false))) fun v1 => .op (.build [(B false), (B false), (B false), (B false), (B false), (B false)] [(3, 1, (B true))]) fun v2 => .op (.build [(B false), (B false), (B false), (B false), (B false), (B false)] [(2, 1, (B true)), (4, 1, (B true))]) fun v3 => (a297x0 v1 v2 v3)) fun v1 => .op (.load 36 true (nth v1 0)) fun v2 => zr [v2]
theorem e297 : denFn prog f297 [] = a297 := by kernel_rfl
def a298x0 (v0 : List AV) (v4 : AV) : AC := .ite v4 (zn (nth v0 0) fun v5 => zf 13 v5 fun v6 => zl v6 fun v7 => zm [v7]) (zm [(I 0)])
def a298x1 (v0 : List AV) (b5 : AV) : AC := .ite b5 (zn (nth v0 0) fun b6 => zf 0 b6 fun b7 => zc 243 [b7, (I 0)] fun b8 => zm []) (zm [])
def a298x2 (v0 v5 : List AV) (b1 : AV) : AC := zn (nth v0 0) fun b2 => zf 12 b2 fun b3 => zl b3 fun b4 => zc 322 [b1, (nth v0 1), b4, (nth v5 0), (I 0)] fun b5 => .bind (a298x1 v0 b5) none (fun b6 => zr []) (fun b6 => [])
def a298x3 (v0 v5 : List AV) : AC := zn (nth v0 0) fun v6 => zf 0 v6 fun v7 => zf 8 v7 fun v8 => .op (.store 1 v8 (.fn (.func 255) [(nth v0 0)] [])) fun v9 => zn (nth v0 0) fun b0 => zf 0 b0 fun b1 => (a298x2 v0 v5 b1)
def a298 : List AV → AC := fun v0 => zn (nth v0 0) fun v1 => zf 12 v1 fun v2 => zl v2 fun v3 => zb .eql v3 (I 4) fun v4 => .bind (a298x0 v0 v4) none (fun v5 => (a298x3 v0 v5)) (fun v5 => [])
theorem e298 : denFn prog f298 [4] = a298 := by kernel_rfl
def a299x0 (v0 : List AV) : AC := zn (nth v0 0) fun bg => zf 0 bg fun bh => zc 251 [bh, (I 0)] fun bi => zm []
def a299x1 (v0 : List AV) (v9 bb : AV) : AC := .ite bb (zc 160 [v9] fun bc => zn (nth v0 0) fun bd => zf 8 bd fun be => zs be bc fun bf => (a299x0 v0)) (zm [])
def a299x2 (v0 : List AV) (v9 b6 b8 : AV) : AC := zl b8 fun b9 => zc 235 [b6, b9] fun ba => zc 234 [v9, ba] fun bb => .bind (a299x1 v0 v9 bb) none (fun bc => zr []) (fun bc => [])
def a299x3 (v0 : List AV) (v9 : AV) : AC := zn (nth v0 0) fun b3 => zf 0 b3 fun b4 => zf 0 b4 fun b5 => .op (.load 4 true b5) fun b6 => zn (nth v0 0) fun b7 => zf 7 b7 fun b8 => (a299x2 v0 v9 b6 b8)
def a299x4 (v0 : List AV) (v4 v6 : AV) : AC := zl v6 fun v7 => zc 159 [v4, v7] fun v8 => zc 132 [(nth v0 1), v8] fun v9 => zn (nth v0 0) fun b0 => zf 0 b0 fun b1 => zc 251 [b1, (I 15)] fun b2 => (a299x3 v0 v9)
def a299 : List AV → AC := fun v0 => zn (nth v0 0) fun v1 => zf 0 v1 fun v2 => zf 0 v2 fun v3 => .op (.load 4 true v3) fun v4 => zn (nth v0 0) fun v5 => zf 7 v5 fun v6 => (a299x4 v0 v4 v6)
theorem e299 : denFn prog f299 [] = a299 := by kernel_rfl
def a300x0 (v0 : List AV) (v6 : AV) : AC := zl (nth v0 0) fun v7 => zn v7 fun v8 => zf 13 v8 fun v9 => zl v9 fun b0 => zc 301 [v6, b0] fun b1 => zr [b1]
def a300 : List AV → AC := fun v0 => zl (nth v0 0) fun v1 => zn v1 fun v2 => zf 0 v2 fun v3 => zf 3 v3 fun v4 => zf 6 v4 fun v5 => .op (.load 3 true v5) fun v6 => (a300x0 v0 v6)
theorem e300 : denFn prog f300 [] = a300 := by kernel_rfl
def a301x0 (v5 b4 b6 : AV) : AC := zf 0 b6 fun b7 => .op (.store 3 b7 b4) fun b8 => zr [v5]
def a301x1 (v5 b0 : AV) : AC := zn v5 fun b1 => zf 9 b1 fun b2 => zs b2 b0 fun b3 => .op (.build [Nf, Nf, Nf] [(0, 1, (.fn (.func 330) [v5] [])), (1, 1, (.fn (.func 331) [v5] [])), (2, 1, (.fn (.func 332) [v5] []))]) fun b4 => zn v5 fun b5 => zf 0 b5 fun b6 => (a301x0 v5 b4 b6)
def a301x2 (v0 : List AV) (v1 v5 v6 : AV) : AC := zc 328 [v6, (nth v0 1)] fun v7 => .ite v7 (zn v5 fun v8 => zf 0 v8 fun v9 => zc 329 [v9, (I 3)] fun b0 => zr [v5]) (zf 1 v1 fun v8 => zl v8 fun v9 => zb .add v9 (nth v0 1) fun b0 => (a301x1 v5 b0))
def a301 : List AV → AC := fun v0 => .op (.box (nth v0 0)) fun v1 => .op (.build [Nf, Nf, Nf, (I 0), (B false), (I 0)] [(4, 1, (B true))]) fun v2 => .op (.load 3 true v1) fun v3 => .op (.build [Nf, Nf, Nf, (I 0), (B false), (I 0), (I 0), (I 0), (I 0), (I 0), (.sc (.int .u32 0))] [(0, 6, v2), (6, 3, v3)]) fun v4 => .op (.box v4) fun v5 => .op (.load 3 true v1) fun v6 => (a301x2 v0 v1 v5 v6)
theorem e301 : denFn prog f301 [4] = a301 := by kernel_rfl
def a302x0 (v3 v5 : AV) : AC := zf 15 v5 fun v6 => zs v6 v3 fun v7 => zr []
def a302 : List AV → AC := fun v0 => zl (nth v0 1) fun v1 => zc 303 [(nth v0 0)] fun v2 => .chk (.load 1 false (nth v0 1)) v1 (.op (.extract 0 v2) fun v3 => .op (.extract 1 v2) fun v4 => zn v1 fun v5 => (a302x0 v3 v5))
theorem e302 : denFn prog f302 [] = a302 := by kernel_rfl
def a303x0 (v8 : AV) : AC := .op (.conv .i64 v8) fun v9 => zr [v9, (I 0)]
def a303x1 (v0 : List AV) (v4 : AV) : AC := zb .neq v4 (I 0) fun v5 => .ite v5 (zr [(I 0), v4]) (zn (nth v0 0) fun v6 => zf 10 v6 fun v7 => zl v7 fun v8 => (a303x0 v8))
def a303 : List AV → AC := fun v0 => .op (.eq 422 false (nth v0 0) Np) fun v1 => .ite v1 (zr [(I 0), (I 1)]) (zn (nth v0 0) fun v2 => zf 0 v2 fun v3 => zc 333 [v3] fun v4 => (a303x1 v0 v4))
theorem e303 : denFn prog f303 [2, 3] = a303 := by kernel_rfl
def a304x0 (v6 : AV) : AC := .op (.load 6 true v6) fun v7 => zc 305 [v7] fun v8 => zr [v8]
def a304 : List AV → AC := fun v0 => zl (nth v0 0) fun v1 => zn v1 fun v2 => zf 0 v2 fun v3 => zf 0 v3 fun v4 => zf 3 v4 fun v5 => zf 0 v5 fun v6 => (a304x0 v6)
theorem e304 : denFn prog f304 [] = a304 := by kernel_rfl
def a305x0 (v4 v5 : AV) : AC := .op (.build [Np, (I 0), (I 0), (I 0), (I 0), (I 0), (I 0), (B false), Nf, (I 0), (U 0), (I 0)] [(0, 1, v5), (1, 6, v4), (7, 1, (B true)), (8, 1, (zF 334))]) fun v6 => .op (.box v6) fun v7 => zr [v7]
def a305 : List AV → AC := fun v0 => .op (.box (nth v0 0)) fun v1 => zf 0 v1 fun v2 => .op (.load 3 true v2) fun v3 => .op (.load 6 true v1) fun v4 => zc 168 [v3] fun v5 => .chk (.load 6 true v1) v4 (a305x0 v4 v5)
theorem e305 : denFn prog f305 [] = a305 := by kernel_rfl
def a306x0 (v1 bq : AV) : AC := zf 0 bq fun br => zl v1 fun bs => zn bs fun bt => zf 0 bt fun bu => zl v1 fun bv => .op (.bslice 1 4 [Nf] [(0, 1, (.fn (.func 338) [] [v1])), (1, 1, (.fn (.func 278) [br] [])), (2, 1, (.fn (.func 263) [bu] [])), (3, 1, (.fn (.func 264) [bv] []))]) fun bw => .fail
def a306x1 (v1 bh bk : AV) : AC := zb .add bk (I 1) fun bl => zn bh fun bm => zf 22 bm fun bn => zs bn bl fun bo => zl v1 fun bp => zn bp fun bq => (a306x0 v1 bq)
def a306x2 (b6 : List AV) (bs bt : AV) : AC := zf 0 bt fun bu => zf 16 bu fun bv => zs bv bs fun bw => zr [(nth b6 1), (nth b6 2)]
def a306x3 (v1 : AV) (b6 : List AV) (bn bo : AV) : AC := zn bo fun bp => zf 0 bp fun bq => zc 278 [bq] fun br => .chk (.load 1 false v1) bn (.op (.bslice 1 1 [Ni] [(0, 1, br)]) fun bs => zn bn fun bt => (a306x2 b6 bs bt))
def a306x4 (v1 : AV) (b6 : List AV) (bi : AV) : AC := zn bi fun bj => zf 0 bj fun bk => zf 18 bk fun bl => zs bl (nth b6 2) fun bm => zl v1 fun bn => zl v1 fun bo => (a306x3 v1 b6 bn bo)
def a306x5 (b6 : List AV) (bi bq : AV) : AC := zn bi fun br => zf 0 br fun bs => zf 16 bs fun bt => zs bt bq fun bu => zm [(nth b6 1), (nth b6 2)]
def a306x6 (v1 : AV) (b6 : List AV) (bi bj bm bn bo : AV) : AC := .chk (.load 1 false v1) bi (.chk (.load 1 false v1) bj (.chk (.load 1 false bm) bn (.op (.bslice 1 1 [Ni] [(0, 1, bo)]) fun bp => .op (.append 1 16 bn bp) fun bq => .chk (.load 1 false v1) bi (a306x5 b6 bi bq))))
def a306x7 (v1 : AV) (b6 : List AV) (b9 bi : AV) : AC := zl v1 fun bj => zn bj fun bk => zf 0 bk fun bl => zf 16 bl fun bm => zl bm fun bn => .call b9 [] fun bo => (a306x6 v1 b6 bi bj bm bn bo)
def a306x8 (v1 : AV) (b6 : List AV) (b9 bg : AV) : AC := .ite bg (zl v1 fun bh => zn bh fun bi => zf 22 bi fun bj => zl bj fun bk => (a306x1 v1 bh bk)) (zb .neq (nth b6 2) (I 0) fun bh => .ite bh (zl v1 fun bi => (a306x4 v1 b6 bi)) (zl v1 fun bi => (a306x7 v1 b6 b9 bi)))
def a306x9 (v1 : AV) (b6 : List AV) (b9 ba : AV) : AC := zt ba (.load 1 false v1) fun bb => zt ba (.nilchk bb) fun bc => zt ba (.faddr 22 bc) fun bd => zt ba (.load 1 false bd) fun be => zt ba (.bin .lss be (I 3)) fun bf => zi ba bf (B false) fun bg => (a306x8 v1 b6 b9 bg)
def a306x10 (v1 b4 : AV) (b6 : List AV) : AC := .bind (.op (.saddr 1 b4 (nth b6 0)) fun b8 => zl b8 fun b9 => zb .eql (nth b6 2) (I 7) fun ba => (a306x9 v1 b6 b9 ba)) (some 1) (fun b8 => zb .add (nth b6 0) (I 1) fun b9 => zm [b9, (nth b8 0), (nth b8 1)]) (fun b8 => [(nth b6 0), (nth b8 0), (nth b8 1)])
def a306x11 (v1 v4 b4 b5 : AV) : AC := .loop [(I 0), b4, v4] (fun b6 => zb .lss (nth b6 0) b5 fun b7 => .ite b7 (a306x10 v1 b4 b6) (.ret (.exit 0) [(nth b6 0), (nth b6 1), (nth b6 2)])) (fun b6 => [(nth b6 0), (nth b6 1), (nth b6 2)])
def a306x12 (v1 v4 v9 b0 b2 : AV) : AC := zf 0 b2 fun b3 => .op (.bslice 1 3 [Nf] [(0, 1, (.fn (.func 336) [v9] [])), (1, 1, (.fn (.func 337) [b0] [])), (2, 1, (.fn (.func 278) [b3] []))]) fun b4 => .op (.len false b4) fun b5 => .bind (a306x11 v1 v4 b4 b5) (some 0) (fun b6 => zr []) (fun b6 => [])
def a306x13 (v1 v3 v4 v6 : AV) : AC := zf 23 v6 fun v7 => zs v7 v3 fun v8 => zl v1 fun v9 => zl v1 fun b0 => zl v1 fun b1 => zn b1 fun b2 => (a306x12 v1 v4 v9 b0 b2)
def a306 : List AV → AC := fun v0 => .op (.box (nth v0 0)) fun v1 => zc 335 [(nth v0 1)] fun v2 => .op (.extract 0 v2) fun v3 => .op (.extract 1 v2) fun v4 => zl v1 fun v5 => zn v5 fun v6 => (a306x13 v1 v3 v4 v6)
theorem e306 : denFn prog f306 [5, 6, 29] = a306 := by kernel_rfl
def a307 : List AV → AC := fun v0 => .op (.load 13 true (nth v0 0)) fun v1 => zc 308 [v1] fun v2 => zr [v2]
theorem e307 : denFn prog f307 [] = a307 := by kernel_rfl
def a308 : List AV → AC := fun v0 => .op (.box (nth v0 0)) fun v1 => .op (.load 13 true v1) fun v2 => zc 340 [v2] fun v3 => .op (.build [(I 0), (I 0), (I 0), (I 0), (I 0), (I 0), (I 0), (I 0), (I 0), (I 0), (I 0), (I 0), (I 0), (I 0), (U 0), (I 0), (U 0), (U 0), (I 0), (U 0), (B false), (I 0)] [(0, 22, v3)]) fun v4 => .op (.box v4) fun v5 => zr [v5]
theorem e308 : denFn prog f308 [] = a308 := by kernel_rfl
def a309x0 (v4 : AV) : AC := zl v4 fun v5 => zr [v5]
def a309 : List AV → AC := fun v0 => .op (.eq 439 false (nth v0 0) Np) fun v1 => .ite v1 (zr [(U 0)]) (zn (nth v0 0) fun v2 => zf 0 v2 fun v3 => zf 19 v3 fun v4 => (a309x0 v4))
theorem e309 : denFn prog f309 [2] = a309 := by kernel_rfl
def a310x0 (v2 v5 : AV) : AC := zn v2 fun b0 => zf 19 b0 fun b1 => zf 2 b1 fun b2 => zs b2 v5 fun b3 => zr []
def a310x1 (v0 : List AV) (v1 v2 v3 v4 : AV) : AC := .op (.extract 1 v3) fun v5 => zn v1 fun v6 => zf 19 v6 fun v7 => zf 0 v7 fun v8 => .op (.store 2 v8 v4) fun v9 => .chk (.load 1 false (nth v0 1)) v2 (a310x0 v2 v5)
def a310 : List AV → AC := fun v0 => zl (nth v0 1) fun v1 => zl (nth v0 1) fun v2 => zc 311 [(nth v0 0)] fun v3 => .chk (.load 1 false (nth v0 1)) v1 (.chk (.load 1 false (nth v0 1)) v2 (.op (.extract 0 v3) fun v4 => (a310x1 v0 v1 v2 v3 v4)))
theorem e310 : denFn prog f310 [] = a310 := by kernel_rfl
def a311x0 (v1 : AV) : AC := .op (.build [(U 0), (I 0)] []) fun v3 => .op (.store 2 v1 v3) fun v4 => zr [v1, (I 1)]
def a311x1 (v0 : List AV) (v1 : AV) : AC := zn (nth v0 0) fun v3 => zf 0 v3 fun v4 => zc 341 [v4] fun v5 => .op (.extract 0 v5) fun v6 => .op (.extract 1 v5) fun v7 => .op (.store 2 v1 v6) fun v8 => zr [v1, v7]
def a311 : List AV → AC := fun v0 => .fin (.op (.alloc [(U 0), (I 0)]) fun v1 => .op (.eq 439 false (nth v0 0) Np) fun v2 => .ite v2 (a311x0 v1) (a311x1 v0 v1)) fun v1 => .op (.load 2 true (nth v1 0)) fun v2 => zr [v2, (nth v1 1)]
theorem e311 : denFn prog f311 [3] = a311 := by kernel_rfl
def a312x0 (v2 v6 v7 : AV) : AC := zl v7 fun v8 => .op (.store 2 v2 v6) fun v9 => .chk (.load 1 false v7) v8 (zr [v2, v8])
def a312x1 (v1 v2 v3 : AV) : AC := zb .neq v3 (I 0) fun v4 => .ite v4 (.op (.build [(U 0), (I 0)] []) fun v5 => .op (.store 2 v2 v5) fun v6 => zr [v2, v3]) (zf 0 v1 fun v5 => .op (.load 2 true v5) fun v6 => zf 2 v1 fun v7 => (a312x0 v2 v6 v7))
def a312 : List AV → AC := fun v0 => .fin (.op (.box (nth v0 0)) fun v1 => .op (.alloc [(U 0), (I 0)]) fun v2 => zc 265 [(nth v0 1)] fun v3 => (a312x1 v1 v2 v3)) fun v1 => .op (.load 2 true (nth v1 0)) fun v2 => zr [v2, (nth v1 1)]
theorem e312 : denFn prog f312 [5] = a312 := by kernel_rfl
def a313x0 (v2 v7 : AV) : AC := .op (.store 26 v2 v7) fun v8 => zr [v2]
def a313x1 (v1 v2 v3 : AV) : AC := zc 88 [v3, (I (-1)), (I 0)] fun v4 => zb .lss v4 (I 0) fun v5 => .ite v5 (.op (.build [(I 0), (I 0), (I 0), (I 0), (I 0), (I 0), (I 0), (I 0), (I 0), (I 0), (I 0), (I 0), (I 0), (I 0), (B false), Np, Np, (I 0), (U 0), (I 0), (U 0), (U 0), (I 0), (U 0), (B false), (I 0)] [(24, 1, (B true)), (17, 1, (I 99)), (25, 1, (I 2))]) fun v6 => .op (.store 26 v2 v6) fun v7 => zr [v2]) (.op (.load 13 true v1) fun v6 => .op (.build [(I 0), (I 0), (I 0), (I 0), (I 0), (I 0), (I 0), (I 0), (I 0), (I 0), (I 0), (I 0), (I 0), (I 0), (B false), Np, Np, (I 0), (U 0), (I 0), (U 0), (U 0), (I 0), (U 0), (B false), (I 0)] [(0, 13, v6), (24, 1, (B true)), (17, 1, (I 1))]) fun v7 => (a313x0 v2 v7))
def a313 : List AV → AC := fun v0 => .fin (.op (.box (nth v0 0)) fun v1 => .op (.alloc [(I 0), (I 0), (I 0), (I 0), (I 0), (I 0), (I 0), (I 0), (I 0), (I 0), (I 0), (I 0), (I 0), (I 0), (B false), Np, Np, (I 0), (U 0), (I 0), (U 0), (U 0), (I 0), (U 0), (B false), (I 0)]) fun v2 => .op (.load 13 true v1) fun v3 => (a313x1 v1 v2 v3)) fun v1 => .op (.load 26 true (nth v1 0)) fun v2 => zr [v2]
theorem e313 : denFn prog f313 [] = a313 := by kernel_rfl
def a314x0 (v1 : AV) : AC := .op (.build [(U 0), (I 0)] []) fun v6 => .op (.store 2 v1 v6) fun v7 => zr [(I 1)]
def a314x1 (v1 : AV) : AC := .op (.build [(U 0), (I 0)] []) fun b0 => .op (.store 2 v1 b0) fun b1 => zr [(I 14)]
def a314x2 (v0 : List AV) (v1 : AV) : AC := .op (.build [(U 0), (I 0)] []) fun b4 => zn (nth v0 0) fun b5 => zf 25 b5 fun b6 => zl b6 fun b7 => .op (.store 2 v1 b4) fun b8 => .chk (.load 1 false b6) b7 (zr [b7])
def a314x3 (v0 : List AV) (v1 : AV) : AC := zn (nth v0 0) fun b0 => zf 25 b0 fun b1 => zl b1 fun b2 => zb .neq b2 (I 0) fun b3 => .ite b3 (a314x2 v0 v1) (zm [(I 0)])
def a314x4 (v0 : List AV) (v1 : AV) : AC := zn (nth v0 0) fun v6 => zf 17 v6 fun v7 => zl v7 fun v8 => zb .neq v8 (I 99) fun v9 => .ite v9 (a314x1 v1) (a314x3 v0 v1)
def a314x5 (v0 : List AV) (v1 : AV) : AC := zn (nth v0 0) fun v2 => zf 24 v2 fun v3 => zl v3 fun v4 => .op (.un .not v4) fun v5 => .ite v5 (a314x0 v1) (a314x4 v0 v1)
def a314x6 (v0 : List AV) (v1 : AV) : AC := zn (nth v0 0) fun v3 => zf 21 v3 fun v4 => .op (.load 2 true v4) fun v5 => .op (.store 2 v1 v5) fun v6 => zr [v1, (I 0)]
def a314 : List AV → AC := fun v0 => .fin (.op (.alloc [(U 0), (I 0)]) fun v1 => .bind (a314x5 v0 v1) (some 0) (fun v2 => (a314x6 v0 v1)) (fun v2 => [v1, (nth v2 0)])) fun v1 => .op (.load 2 true (nth v1 0)) fun v2 => zr [v2, (nth v1 1)]
theorem e314 : denFn prog f314 [3] = a314 := by kernel_rfl
def a315x0 (v0 : List AV) (v6 : AV) : AC := zl (nth v0 0) fun v7 => zn v7 fun v8 => zf 13 v8 fun v9 => zl v9 fun b0 => zc 316 [v6, b0] fun b1 => zr [b1]
def a315 : List AV → AC := fun v0 => zl (nth v0 0) fun v1 => zn v1 fun v2 => zf 0 v2 fun v3 => zf 3 v3 fun v4 => zf 6 v4 fun v5 => .op (.load 3 true v5) fun v6 => (a315x0 v0 v6)
theorem e315 : denFn prog f315 [] = a315 := by kernel_rfl
def a316x0 (v7 b0 : AV) : AC := zf 0 b0 fun b1 => zc 329 [b1, (I 3)] fun b2 => zr [v7]
def a316x1 (v7 b0 : AV) : AC := zf 0 b0 fun b1 => zf 0 b1 fun b2 => .op (.paddr 3 1 b2 (I 0)) fun b3 => .op (.store 1 b3 (.fn (.func 342) [v7] [])) fun b4 => zr [v7]
def a316x2 (v0 : List AV) (v1 v6 : AV) : AC := .op (.box v6) fun v7 => .op (.load 3 true v1) fun v8 => zc 328 [v8, (nth v0 1)] fun v9 => .ite v9 (zn v7 fun b0 => (a316x0 v7 b0)) (zn v7 fun b0 => (a316x1 v7 b0))
def a316 : List AV → AC := fun v0 => .op (.box (nth v0 0)) fun v1 => .op (.build [Nf, Nf, Nf, (I 0), (B false), (I 0)] [(4, 1, (B true))]) fun v2 => zf 1 v1 fun v3 => zl v3 fun v4 => zb .add v4 (nth v0 1) fun v5 => .op (.build [Nf, Nf, Nf, (I 0), (B false), (I 0), (I 0)] [(0, 6, v2), (6, 1, v5)]) fun v6 => (a316x2 v0 v1 v6)
theorem e316 : denFn prog f316 [4] = a316 := by kernel_rfl
def a317x0 (v0 v3 : List AV) : AC := .op (.faddr 1 (nth v0 1)) fun v5 => .op (.load 1 false v5) fun v6 => .op (.bin .add v6 (nth v3 0)) fun v7 => .call (nth v0 0) [(nth v3 0), v7] fun v8 => .op (.un .not v8) fun v9 => .ite v9 (.ret .ret []) (.ret .normal [])
def a317x1 (v3 : List AV) : AC := .op (.bin .add (nth v3 0) (I 1)) fun v6 => .ret .normal [v6]
def a317x2 (v0 : List AV) (v2 : AV) (v3 : List AV) : AC := .op (.bin .lss (nth v3 0) v2) fun v4 => .ite v4 (.bind (a317x0 v0 v3) (some 1) (fun v5 => (a317x1 v3)) (fun v5 => [(nth v3 0)])) (.ret (.exit 0) [(nth v3 0)])
def a317 : List AV → AC := fun v0 => .op (.faddr 2 (nth v0 1)) fun v1 => .op (.load 1 false v1) fun v2 => .bind (.loop [(I 0)] (fun v3 => (a317x2 v0 v2 v3)) (fun v3 => [(nth v3 0)])) (some 0) (fun v3 => .ret .ret []) (fun v3 => [])
theorem e317 : denFn prog f317 [6] = a317 := by kernel_rfl
def a318x0 (b0 : AV) : AC := zn b0 fun b1 => zl b1 fun b2 => zr [b2, (B false)]
def a318x1 (v1 v5 v6 : AV) : AC := zl v6 fun v7 => zb .neq v5 v7 fun v8 => .ite v8 (zf 0 v1 fun v9 => zl v9 fun b0 => (a318x0 b0)) (zf 2 v1 fun v9 => zl v9 fun b0 => zr [b0, (B true)])
def a318 : List AV → AC := fun v0 => .op (.box (nth v0 0)) fun v1 => zf 0 v1 fun v2 => zl v2 fun v3 => zn v3 fun v4 => zl v4 fun v5 => zf 1 v1 fun v6 => (a318x1 v1 v5 v6)
theorem e318 : denFn prog f318 [2, 3] = a318 := by kernel_rfl
def a319x0 (v5 : AV) : AC := zf 0 v5 fun b2 => zl b2 fun b3 => zr [b3]
def a319x1 (v1 v5 : AV) : AC := zf 0 v5 fun v7 => zl v7 fun v8 => zf 2 v1 fun v9 => zl v9 fun b0 => zb .geq v8 b0 fun b1 => .ite b1 (zr [(I (-1))]) (a319x0 v5)
def a319 : List AV → AC := fun v0 => .op (.box (nth v0 0)) fun v1 => zc 236 [(nth v0 1)] fun v2 => .op (.extract 0 v2) fun v3 => .op (.extract 1 v2) fun v4 => .op (.alloc [(I 0), (I 0)]) fun v5 => .op (.store 2 v5 v3) fun v6 => (a319x1 v1 v5)
theorem e319 : denFn prog f319 [4] = a319 := by kernel_rfl
def a320x0 (v0 : List AV) (b0 : AV) : AC := .ite b0 (zn (nth v0 0) fun b1 => zf 0 b1 fun b2 => zc 288 [b2, (I 0)] fun b3 => zm []) (zm [])
def a320x1 (v0 : List AV) (v5 v6 : AV) : AC := zf 0 v6 fun v7 => zf 5 v7 fun v8 => zl v8 fun v9 => zc 343 [v5, (nth v0 1), v9] fun b0 => .bind (a320x0 v0 b0) none (fun b1 => zr []) (fun b1 => [])
def a320 : List AV → AC := fun v0 => zn (nth v0 0) fun v1 => zf 9 v1 fun v2 => .op (.store 1 v2 (zF 239)) fun v3 => zn (nth v0 0) fun v4 => zf 0 v4 fun v5 => zn (nth v0 0) fun v6 => (a320x1 v0 v5 v6)
theorem e320 : denFn prog f320 [] = a320 := by kernel_rfl
def a321x0 (v0 : List AV) : AC := zn (nth v0 0) fun v8 => zf 7 v8 fun v9 => zl v9 fun b0 => .op (.un .not b0) fun b1 => .ite b1 (zr [(I 14)]) (zm [(I 0)])
def a321x1 (v0 : List AV) (v1 v3 : AV) : AC := zu v1 (.faddr 6 v3) fun v4 => zu v1 (.load 1 false v4) fun v5 => zu v1 (.un .not v5) fun v6 => zi v1 (B true) v6 fun v7 => .ite v7 (zr [(I 1)]) (a321x0 v0)
def a321 : List AV → AC := fun v0 => .bind (.op (.eq 466 false (nth v0 0) Np) fun v1 => zu v1 (.mv (nth v0 0)) fun v2 => zu v1 (.nilchk v2) fun v3 => (a321x1 v0 v1 v3)) (some 0) (fun v1 => zn (nth v0 0) fun v2 => zf 8 v2 fun v3 => zl v3 fun v4 => zr [v4]) (fun v1 => [(nth v1 0)])
theorem e321 : denFn prog f321 [2] = a321 := by kernel_rfl
def a322x0 (v0 : List AV) (v7 b0 b1 b3 b4 b5 b7 b8 : AV) : AC := .op (.build [(I 0), (I 0), (I 0)] [(0, 1, (nth v0 2)), (1, 1, (nth v0 3)), (2, 1, v7)]) fun b9 => zc 148 [b9] fun ba => .chk (.load 1 false b0) b1 (.chk (.load 1 false b3) b4 (.chk (.load 1 false b7) b8 (zc 285 [(nth v0 1), b5, b8, ba] fun bb => zr [bb])))
def a322x1 (v0 : List AV) (v7 b0 b1 b2 : AV) : AC := zf 5 b2 fun b3 => zl b3 fun b4 => zb .add b1 b4 fun b5 => zn (nth v0 0) fun b6 => zf 6 b6 fun b7 => zl b7 fun b8 => (a322x0 v0 v7 b0 b1 b3 b4 b5 b7 b8)
def a322x2 (v0 : List AV) (v6 : AV) : AC := zb .and v6 (I 4294967295) fun v7 => zn (nth v0 0) fun v8 => zf 0 v8 fun v9 => zf 0 v9 fun b0 => zl b0 fun b1 => zn (nth v0 0) fun b2 => (a322x1 v0 v7 b0 b1 b2)
def a322 : List AV → AC := fun v0 => zn (nth v0 0) fun v1 => zf 6 v1 fun v2 => zl v2 fun v3 => zc 81 [v3] fun v4 => .op (.part 2 1 false v4) fun v5 => zb .add v5 (nth v0 4) fun v6 => (a322x2 v0 v6)
theorem e322 : denFn prog f322 [] = a322 := by kernel_rfl
def a323x0 (v0 : List AV) : AC := zn (nth v0 0) fun b7 => zf 9 b7 fun b8 => .op (.store 1 b8 (zF 344)) fun b9 => zr []
def a323x1 (v0 : List AV) (v4 v5 v8 v9 b0 b2 : AV) : AC := zf 5 b2 fun b3 => zl b3 fun b4 => zc 230 [b4] fun b5 => .chk (.load 1 false v4) v5 (.chk (.load 1 false v8) v9 (zc 76 [(nth v0 1), b0, b5] fun b6 => (a323x0 v0)))
def a323x2 (v0 : List AV) (v4 v5 v6 : AV) : AC := zf 0 v6 fun v7 => zf 4 v7 fun v8 => zl v8 fun v9 => zb .add v5 v9 fun b0 => zn (nth v0 0) fun b1 => zf 0 b1 fun b2 => (a323x1 v0 v4 v5 v8 v9 b0 b2)
def a323 : List AV → AC := fun v0 => zn (nth v0 0) fun v1 => zf 0 v1 fun v2 => zf 0 v2 fun v3 => zf 1 v3 fun v4 => zl v4 fun v5 => zn (nth v0 0) fun v6 => (a323x2 v0 v4 v5 v6)
theorem e323 : denFn prog f323 [] = a323 := by kernel_rfl
def a324x0 (v0 : List AV) : AC := zn (nth v0 0) fun v9 => zf 0 v9 fun b0 => zc 243 [b0, (I 0)] fun b1 => zm []
def a324x1 (v0 : List AV) (v6 : AV) : AC := zl v6 fun v7 => zc 345 [v7, (nth v0 1)] fun v8 => .bind (.ite v8 (a324x0 v0) (zm [])) none (fun v9 => zr []) (fun v9 => [])
def a324 : List AV → AC := fun v0 => zn (nth v0 0) fun v1 => zf 0 v1 fun v2 => zf 8 v2 fun v3 => .op (.store 1 v3 (.fn (.func 324) [(nth v0 0)] [])) fun v4 => zn (nth v0 0) fun v5 => zf 11 v5 fun v6 => (a324x1 v0 v6)
theorem e324 : denFn prog f324 [] = a324 := by kernel_rfl
def a325x0 (v3 v6 : AV) : AC := zi v3 v6 (B false) fun v7 => zr [v7]
def a325 : List AV → AC := fun v0 => zb .shr (nth v0 0) (U 32) fun v1 => .op (.conv .u32 v1) fun v2 => zb .eql v2 (nth v0 1) fun v3 => zt v3 (.mv (nth v0 0)) fun v4 => zt v3 (.bin .and v4 (U 65536)) fun v5 => zt v3 (.bin .eql v5 (U 0)) fun v6 => (a325x0 v3 v6)
theorem e325 : denFn prog f325 [] = a325 := by kernel_rfl
def a326x0 (v0 : List AV) : AC := zn (nth v0 0) fun bk => zf 0 bk fun bl => zf 4 bl fun bm => .op (.store 1 bm (.fn (.func 347) [(nth v0 0)] [])) fun bn => zm []
def a326x1 (v0 : List AV) (b3 b4 bf bi : AV) : AC := .chk (.load 1 false b3) b4 (zc 285 [(nth v0 1), bf, b4, bi] fun bj => .bind (.ite bj (a326x0 v0) (zm [])) none (fun bk => zr []) (fun bk => []))
def a326x2 (v0 : List AV) (b3 b4 bd be bf bg : AV) : AC := .chk (.load 1 false b3) b4 (.chk (.load 1 false bd) be (zc 266 [bg] fun bh => .chk (.load 1 false b3) b4 (.chk (.load 1 false bd) be (zc 346 [bh, be] fun bi => (a326x1 v0 b3 b4 bf bi)))))
def a326x3 (v0 : List AV) (v8 b1 b3 b4 b7 b8 ba bb bd be : AV) : AC := zc 159 [v8, b1] fun bf => .chk (.load 1 false b3) b4 (.chk (.load 4 true b7) b8 (.chk (.load 1 false ba) bb (.chk (.load 1 false bd) be (zc 235 [b8, bb] fun bg => (a326x2 v0 b3 b4 bd be bf bg)))))
def a326x4 (v0 : List AV) (v8 b1 b3 b4 b7 b8 : AV) : AC := zn (nth v0 0) fun b9 => zf 8 b9 fun ba => zl ba fun bb => zn (nth v0 0) fun bc => zf 7 bc fun bd => zl bd fun be => (a326x3 v0 v8 b1 b3 b4 b7 b8 ba bb bd be)
def a326x5 (v0 : List AV) (v8 b1 b2 : AV) : AC := zf 9 b2 fun b3 => zl b3 fun b4 => zn (nth v0 0) fun b5 => zf 0 b5 fun b6 => zf 0 b6 fun b7 => .op (.load 4 true b7) fun b8 => (a326x4 v0 v8 b1 b3 b4 b7 b8)
def a326x6 (v0 : List AV) (v6 : AV) : AC := zf 0 v6 fun v7 => .op (.load 4 true v7) fun v8 => zn (nth v0 0) fun v9 => zf 8 v9 fun b0 => zl b0 fun b1 => zn (nth v0 0) fun b2 => (a326x5 v0 v8 b1 b2)
def a326 : List AV → AC := fun v0 => zn (nth v0 0) fun v1 => zf 0 v1 fun v2 => zf 4 v2 fun v3 => .op (.store 1 v3 (.fn (.func 327) [(nth v0 0)] [])) fun v4 => zn (nth v0 0) fun v5 => zf 0 v5 fun v6 => (a326x6 v0 v6)
theorem e326 : denFn prog f326 [] = a326 := by kernel_rfl
def a328x0 (v2 v6 : AV) : AC := zi v2 (B true) v6 fun v7 => zr [v7]
def a328 : List AV → AC := fun v0 => .op (.box (nth v0 0)) fun v1 => zb .lss (nth v0 1) (I 0) fun v2 => zu v2 (.mv (nth v0 1)) fun v3 => zu v2 (.faddr 2 v1) fun v4 => zu v2 (.load 1 false v4) fun v5 => zu v2 (.bin .geq v3 v5) fun v6 => (a328x0 v2 v6)
theorem e328 : denFn prog f328 [] = a328 := by kernel_rfl
def a329 : List AV → AC := fun v0 => zn (nth v0 0) fun v1 => zf 3 v1 fun v2 => zs v2 (I (-1)) fun v3 => zn (nth v0 0) fun v4 => zf 5 v4 fun v5 => zs v5 (nth v0 1) fun v6 => zr []
theorem e329 : denFn prog f329 [] = a329 := by kernel_rfl
def a330x0 (b2 : AV) : AC := zs b2 (I 1) fun b3 => zr []
def a330x1 (v0 : List AV) (v6 : AV) : AC := zn (nth v0 0) fun v7 => zf 10 v7 fun v8 => zs v8 v6 fun v9 => zn (nth v0 0) fun b0 => zf 0 b0 fun b1 => zf 3 b1 fun b2 => (a330x0 b2)
def a330 : List AV → AC := fun v0 => zn (nth v0 0) fun v1 => zf 6 v1 fun v2 => zf 0 v2 fun v3 => zl v3 fun v4 => zc 132 [(nth v0 1), v4] fun v5 => .op (.conv .u32 v5) fun v6 => (a330x1 v0 v6)
theorem e330 : denFn prog f330 [] = a330 := by kernel_rfl
def a331x0 (b2 : AV) : AC := zs b2 (I 2) fun b3 => zr []
def a331x1 (v0 : List AV) (v3 v6 : AV) : AC := .op (.conv .u64 v6) fun v7 => zb .add v7 (U 1) fun v8 => zc 76 [(nth v0 1), v3, v8] fun v9 => zn (nth v0 0) fun b0 => zf 0 b0 fun b1 => zf 3 b1 fun b2 => (a331x0 b2)
def a331 : List AV → AC := fun v0 => zn (nth v0 0) fun v1 => zf 9 v1 fun v2 => zl v2 fun v3 => zn (nth v0 0) fun v4 => zf 10 v4 fun v5 => zl v5 fun v6 => (a331x1 v0 v3 v6)
theorem e331 : denFn prog f331 [] = a331 := by kernel_rfl
def a332x0 (v0 : List AV) : AC := zn (nth v0 0) fun b1 => zf 0 b1 fun b2 => zc 329 [b2, (I 0)] fun b3 => zr []
def a332x1 (b6 : AV) : AC := zs b6 (I 1) fun b7 => zr []
def a332x2 (v0 : List AV) (v6 : AV) : AC := zn (nth v0 0) fun b1 => zf 10 b1 fun b2 => zs b2 v6 fun b3 => zn (nth v0 0) fun b4 => zf 0 b4 fun b5 => zf 3 b5 fun b6 => (a332x1 b6)
def a332x3 (v0 : List AV) (v6 : AV) : AC := zn (nth v0 0) fun v7 => zf 10 v7 fun v8 => zl v8 fun v9 => zb .eql v6 v9 fun b0 => .ite b0 (a332x0 v0) (a332x2 v0 v6)
def a332 : List AV → AC := fun v0 => zn (nth v0 0) fun v1 => zf 6 v1 fun v2 => zf 0 v2 fun v3 => zl v3 fun v4 => zc 132 [(nth v0 1), v4] fun v5 => .op (.conv .u32 v5) fun v6 => (a332x3 v0 v6)
theorem e332 : denFn prog f332 [] = a332 := by kernel_rfl
def a333x0 (v7 : AV) : AC := zb .neq v7 (I (-1)) fun v8 => .ite v8 (zr [(I 14)]) (zm [(I 0)])
def a333x1 (v0 : List AV) (v3 : AV) : AC := .op (.un .not v3) fun v4 => .ite v4 (zr [(I 1)]) (zn (nth v0 0) fun v5 => zf 3 v5 fun v6 => zl v6 fun v7 => (a333x0 v7))
def a333 : List AV → AC := fun v0 => .bind (zn (nth v0 0) fun v1 => zf 4 v1 fun v2 => zl v2 fun v3 => (a333x1 v0 v3)) (some 0) (fun v1 => zn (nth v0 0) fun v2 => zf 5 v2 fun v3 => zl v3 fun v4 => zr [v4]) (fun v1 => [(nth v1 0)])
theorem e333 : denFn prog f333 [2] = a333 := by kernel_rfl
def a334x0 (v0 : List AV) : AC := zn (nth v0 0) fun b9 => zf 8 b9 fun ba => .op (.store 1 ba (zF 349)) fun bb => zm []
def a334x1 (v0 : List AV) (b1 : AV) : AC := zb .neq b1 (I 0) fun b8 => .bind (.ite b8 (a334x0 v0) (zm [])) none (fun b9 => zr []) (fun b9 => [])
def a334x2 (v0 : List AV) (b0 b1 : AV) : AC := zn (nth v0 0) fun b2 => zf 9 b2 fun b3 => zs b3 b0 fun b4 => zn (nth v0 0) fun b5 => zf 8 b5 fun b6 => .op (.store 1 b6 (zF 348)) fun b7 => (a334x1 v0 b1)
def a334x3 (v0 : List AV) : AC := zn (nth v0 0) fun v6 => zf 0 v6 fun v7 => zl v7 fun v8 => zc 241 [v8] fun v9 => .op (.extract 0 v9) fun b0 => .op (.extract 1 v9) fun b1 => (a334x2 v0 b0 b1)
def a334 : List AV → AC := fun v0 => zn (nth v0 0) fun v1 => zf 0 v1 fun v2 => zl v2 fun v3 => zc 240 [v3, (nth v0 1)] fun v4 => .op (.un .not v4) fun v5 => .ite v5 (zr []) (a334x3 v0)
theorem e334 : denFn prog f334 [] = a334 := by kernel_rfl
def a335x0 (v0 : List AV) : AC := zn (nth v0 0) fun v8 => zf 8 v8 fun v9 => zl v9 fun b0 => .op (.eq 476 true b0 Nf) fun b1 => .ite b1 (zr [(I 14), (U 0)]) (zm [(I 0), (U 0)])
def a335x1 (v0 : List AV) (v1 v3 : AV) : AC := zu v1 (.faddr 7 v3) fun v4 => zu v1 (.load 1 false v4) fun v5 => zu v1 (.un .not v5) fun v6 => zi v1 (B true) v6 fun v7 => .ite v7 (zr [(I 1), (U 0)]) (a335x0 v0)
def a335x2 (v0 : List AV) (v4 : AV) : AC := zn (nth v0 0) fun v5 => zf 11 v5 fun v6 => zl v6 fun v7 => zr [v4, v7]
def a335 : List AV → AC := fun v0 => .bind (.op (.eq 430 false (nth v0 0) Np) fun v1 => zu v1 (.mv (nth v0 0)) fun v2 => zu v1 (.nilchk v2) fun v3 => (a335x1 v0 v1 v3)) (some 0) (fun v1 => zn (nth v0 0) fun v2 => zf 10 v2 fun v3 => zl v3 fun v4 => (a335x2 v0 v4)) (fun v1 => [(nth v1 1), (nth v1 0)])
theorem e335 : denFn prog f335 [2, 3] = a335 := by kernel_rfl
def a336 : List AV → AC := fun v0 => .op (.box (nth v0 0)) fun v1 => .op (.build [Nf, Nf, Nf, Np, (B false)] [(0, 1, (.fn (.func 350) [] [v1])), (1, 1, (zF 352))]) fun v2 => .op (.box v2) fun v3 => zr [(.iface 492 v3)]
theorem e336 : denFn prog f336 [] = a336 := by kernel_rfl
def a337 : List AV → AC := fun v0 => .op (.box (nth v0 0)) fun v1 => .op (.build [Nf, Nf, Nf, Np, (B false)] [(0, 1, (.fn (.func 353) [] [v1])), (1, 1, (zF 355))]) fun v2 => .op (.box v2) fun v3 => zr [(.iface 500 v3)]
theorem e337 : denFn prog f337 [] = a337 := by kernel_rfl
def a340x0 (v2 v7 : AV) : AC := .op (.store 22 v2 v7) fun v8 => zr [v2]
def a340x1 (v1 v2 v3 : AV) : AC := zc 88 [v3, (I (-1)), (I 0)] fun v4 => zb .lss v4 (I 0) fun v5 => .ite v5 (.op (.build [(I 0), (I 0), (I 0), (I 0), (I 0), (I 0), (I 0), (I 0), (I 0), (I 0), (I 0), (I 0), (I 0), (I 0), (U 0), (I 0), (U 0), (U 0), (I 0), (U 0), (B false), (I 0)] [(20, 1, (B true)), (13, 1, (I 99)), (21, 1, (I 2))]) fun v6 => .op (.store 22 v2 v6) fun v7 => zr [v2]) (.op (.load 13 true v1) fun v6 => .op (.build [(I 0), (I 0), (I 0), (I 0), (I 0), (I 0), (I 0), (I 0), (I 0), (I 0), (I 0), (I 0), (I 0), (I 0), (U 0), (I 0), (U 0), (U 0), (I 0), (U 0), (B false), (I 0)] [(0, 13, v6), (20, 1, (B true)), (13, 1, (I 1))]) fun v7 => (a340x0 v2 v7))
def a340 : List AV → AC := fun v0 => .fin (.op (.box (nth v0 0)) fun v1 => .op (.alloc [(I 0), (I 0), (I 0), (I 0), (I 0), (I 0), (I 0), (I 0), (I 0), (I 0), (I 0), (I 0), (I 0), (I 0), (U 0), (I 0), (U 0), (U 0), (I 0), (U 0), (B false), (I 0)]) fun v2 => .op (.load 13 true v1) fun v3 => (a340x1 v1 v2 v3)) fun v1 => .op (.load 22 true (nth v1 0)) fun v2 => zr [v2]
theorem e340 : denFn prog f340 [] = a340 := by kernel_rfl
def a341x0 (v1 : AV) : AC := .op (.build [(U 0), (I 0)] []) fun v6 => .op (.store 2 v1 v6) fun v7 => zr [(I 1)]
def a341x1 (v1 : AV) : AC := .op (.build [(U 0), (I 0)] []) fun b0 => .op (.store 2 v1 b0) fun b1 => zr [(I 14)]
def a341x2 (v0 : List AV) (v1 : AV) : AC := .op (.build [(U 0), (I 0)] []) fun b4 => zn (nth v0 0) fun b5 => zf 21 b5 fun b6 => zl b6 fun b7 => .op (.store 2 v1 b4) fun b8 => .chk (.load 1 false b6) b7 (zr [b7])
def a341x3 (v0 : List AV) (v1 : AV) : AC := zn (nth v0 0) fun b0 => zf 21 b0 fun b1 => zl b1 fun b2 => zb .neq b2 (I 0) fun b3 => .ite b3 (a341x2 v0 v1) (zm [(I 0)])
def a341x4 (v0 : List AV) (v1 : AV) : AC := zn (nth v0 0) fun v6 => zf 13 v6 fun v7 => zl v7 fun v8 => zb .neq v8 (I 99) fun v9 => .ite v9 (a341x1 v1) (a341x3 v0 v1)
def a341x5 (v0 : List AV) (v1 : AV) : AC := zn (nth v0 0) fun v2 => zf 20 v2 fun v3 => zl v3 fun v4 => .op (.un .not v4) fun v5 => .ite v5 (a341x0 v1) (a341x4 v0 v1)
def a341x6 (v0 : List AV) (v1 : AV) : AC := zn (nth v0 0) fun v3 => zf 17 v3 fun v4 => .op (.load 2 true v4) fun v5 => .op (.store 2 v1 v5) fun v6 => zr [v1, (I 0)]
def a341 : List AV → AC := fun v0 => .fin (.op (.alloc [(U 0), (I 0)]) fun v1 => .bind (a341x5 v0 v1) (some 0) (fun v2 => (a341x6 v0 v1)) (fun v2 => [v1, (nth v2 0)])) fun v1 => .op (.load 2 true (nth v1 0)) fun v2 => zr [v2, (nth v1 1)]
theorem e341 : denFn prog f341 [3] = a341 := by kernel_rfl
def a342x0 (v6 : AV) : AC := zc 329 [v6, (I 0)] fun v7 => zr []
def a342 : List AV → AC := fun v0 => zn (nth v0 0) fun v1 => zf 6 v1 fun v2 => zl v2 fun v3 => zc 76 [(nth v0 1), v3, (U 0)] fun v4 => zn (nth v0 0) fun v5 => zf 0 v5 fun v6 => (a342x0 v6)
theorem e342 : denFn prog f342 [] = a342 := by kernel_rfl
def a343x0 (v0 : List AV) (b5 b8 : AV) : AC := zf 0 b8 fun b9 => zl b9 fun ba => zn (nth v0 0) fun bb => zf 3 bb fun bc => zl bc fun bd => zc 285 [(nth v0 1), ba, bd, b5] fun be => zr [be]
def a343x1 (v0 : List AV) (b2 : AV) : AC := .op (.build [(I 0), (I 0)] [(0, 1, (nth v0 2)), (1, 1, b2)]) fun b3 => zc 283 [b3] fun b4 => .op (.extract 0 b4) fun b5 => .op (.extract 1 b4) fun b6 => zn (nth v0 0) fun b7 => zf 0 b7 fun b8 => (a343x0 v0 b5 b8)
def a343x2 (v0 : List AV) (v5 : AV) : AC := .op (.alloc [(I 0), (I 0)]) fun v7 => .op (.store 2 v7 v5) fun v8 => zf 1 v7 fun v9 => zl v9 fun b0 => zb .add b0 (I 1) fun b1 => zb .and b1 (I 281474976710655) fun b2 => (a343x1 v0 b2)
def a343 : List AV → AC := fun v0 => zn (nth v0 0) fun v1 => zf 3 v1 fun v2 => zl v2 fun v3 => zc 236 [v3] fun v4 => .op (.extract 0 v4) fun v5 => .op (.extract 1 v4) fun v6 => (a343x2 v0 v5)
theorem e343 : denFn prog f343 [] = a343 := by kernel_rfl
def a344x0 (v0 : List AV) (b0 : AV) : AC := .ite b0 (zn (nth v0 0) fun b1 => zf 0 b1 fun b2 => zc 288 [b2, (I 0)] fun b3 => zm []) (zm [])
def a344x1 (v0 : List AV) (v5 v6 : AV) : AC := zf 0 v6 fun v7 => zf 4 v7 fun v8 => zl v8 fun v9 => zc 343 [v5, (nth v0 1), v9] fun b0 => .bind (a344x0 v0 b0) none (fun b1 => zr []) (fun b1 => [])
def a344 : List AV → AC := fun v0 => zn (nth v0 0) fun v1 => zf 9 v1 fun v2 => .op (.store 1 v2 (zF 293)) fun v3 => zn (nth v0 0) fun v4 => zf 0 v4 fun v5 => zn (nth v0 0) fun v6 => (a344x1 v0 v5 v6)
theorem e344 : denFn prog f344 [] = a344 := by kernel_rfl
def a345x0 (v0 : List AV) : AC := zn (nth v0 0) fun b1 => zf 0 b1 fun b2 => zf 7 b2 fun b3 => zl b3 fun b4 => zr [b4]
def a345x1 (v0 : List AV) (v6 : AV) : AC := .ite v6 (zr [(B true)]) (zn (nth v0 0) fun v7 => zf 9 v7 fun v8 => zl v8 fun v9 => .call v9 [(nth v0 0), (nth v0 1)] fun b0 => (a345x0 v0))
def a345 : List AV → AC := fun v0 => .op (.eq 349 false (nth v0 0) Np) fun v1 => zu v1 (.mv (nth v0 0)) fun v2 => zu v1 (.nilchk v2) fun v3 => zu v1 (.faddr 0 v3) fun v4 => .gcall v1 false (zF 289) [v4] fun v5 => zi v1 (B true) v5 fun v6 => (a345x1 v0 v6)
theorem e345 : denFn prog f345 [4] = a345 := by kernel_rfl
def a346 : List AV → AC := fun v0 => zb .andNot (nth v0 0) (U 65535) fun v1 => zb .or v1 (U 65536) fun v2 => .op (.conv .u64 (nth v0 1)) fun v3 => zb .or v2 v3 fun v4 => zr [v4]
theorem e346 : denFn prog f346 [] = a346 := by kernel_rfl
def a347x0 (v0 : List AV) (v5 v8 b2 : AV) : AC := zc 285 [(nth v0 1), v5, v8, b2] fun b3 => zn (nth v0 0) fun b4 => zf 0 b4 fun b5 => zc 251 [b5, (I 0)] fun b6 => zr []
def a347x1 (v0 : List AV) (v5 v6 : AV) : AC := zf 8 v6 fun v7 => zl v7 fun v8 => zn (nth v0 0) fun v9 => zf 8 v9 fun b0 => zl b0 fun b1 => zb .add b1 (U 1) fun b2 => (a347x0 v0 v5 v8 b2)
def a347 : List AV → AC := fun v0 => zn (nth v0 0) fun v1 => zf 0 v1 fun v2 => zf 0 v2 fun v3 => zf 1 v3 fun v4 => zl v4 fun v5 => zn (nth v0 0) fun v6 => (a347x1 v0 v5 v6)
theorem e347 : denFn prog f347 [] = a347 := by kernel_rfl
def a348x0 (bc : AV) : AC := zs bc Nf fun bd => zr []
def a348x1 (v0 : List AV) (b5 b6 : AV) : AC := .op (.extract 1 b5) fun b7 => zn (nth v0 0) fun b8 => zf 10 b8 fun b9 => zs b9 b6 fun ba => zn (nth v0 0) fun bb => zf 8 bb fun bc => (a348x0 bc)
def a348x2 (v0 : List AV) (v2 v3 b2 : AV) : AC := .chk (.load 1 false v2) v3 (zc 359 [b2] fun b3 => .chk (.load 1 false v2) v3 (.op (.build [(I 0), (I 0), (B false)] [(0, 1, v3), (1, 1, b3)]) fun b4 => zc 358 [b4] fun b5 => .op (.extract 0 b5) fun b6 => (a348x1 v0 b5 b6)))
def a348x3 (v0 : List AV) (v2 v3 v6 : AV) : AC := zl v6 fun v7 => zn (nth v0 0) fun v8 => zf 9 v8 fun v9 => zl v9 fun b0 => zb .add v7 b0 fun b1 => zc 132 [(nth v0 1), b1] fun b2 => (a348x2 v0 v2 v3 b2)
def a348 : List AV → AC := fun v0 => zn (nth v0 0) fun v1 => zf 9 v1 fun v2 => zl v2 fun v3 => zn (nth v0 0) fun v4 => zf 1 v4 fun v5 => zf 3 v5 fun v6 => (a348x3 v0 v2 v3 v6)
theorem e348 : denFn prog f348 [] = a348 := by kernel_rfl
def a350x0 (v5 v9 b3 b7 b8 : AV) : AC := zn b8 fun b9 => zf 21 b9 fun ba => zl ba fun bb => zc 351 [v5, v9, b3, b7, bb] fun bc => zr [bc]
def a350x1 (v0 : List AV) (v5 v9 b2 : AV) : AC := zl b2 fun b3 => zl (nth v0 0) fun b4 => zn b4 fun b5 => zf 20 b5 fun b6 => zl b6 fun b7 => zl (nth v0 0) fun b8 => (a350x0 v5 v9 b3 b7 b8)
def a350x2 (v0 : List AV) (v5 v6 : AV) : AC := zn v6 fun v7 => zf 23 v7 fun v8 => zl v8 fun v9 => zl (nth v0 0) fun b0 => zn b0 fun b1 => zf 19 b1 fun b2 => (a350x1 v0 v5 v9 b2)
def a350 : List AV → AC := fun v0 => zl (nth v0 0) fun v1 => zn v1 fun v2 => zf 0 v2 fun v3 => zf 0 v3 fun v4 => .op (.load 13 true v4) fun v5 => zl (nth v0 0) fun v6 => (a350x2 v0 v5 v6)
theorem e350 : denFn prog f350 [] = a350 := by kernel_rfl
def a351x0 (v5 b0 : AV) : AC := zf 6 b0 fun b1 => zs b1 (I 4) fun b2 => zr [v5]
def a351x1 (v5 ba bc : AV) : AC := .op (.store 4 bc ba) fun bd => zr [v5]
def a351x2 (v0 : List AV) (v1 v5 b2 b4 b6 : AV) : AC := .op (.conv .u64 (nth v0 4)) fun b7 => .call (.fn (.func 361) [] [v1, b2]) [(I 2), b7] fun b8 => .call (.fn (.func 361) [] [v1, b2]) [(I 3), (U 2)] fun b9 => .op (.build [Nf, Nf, Nf, Nf] [(0, 1, b4), (1, 1, b6), (2, 1, b8), (3, 1, b9)]) fun ba => zn v5 fun bb => zf 2 bb fun bc => (a351x1 v5 ba bc)
def a351x3 (v0 : List AV) (v1 v5 b0 : AV) : AC := zc 162 [b0, (nth v0 1)] fun b1 => .op (.alloc [(I 0)]) fun b2 => zs b2 b1 fun b3 => .call (.fn (.func 361) [] [v1, b2]) [(I 0), (nth v0 2)] fun b4 => .op (.conv .u64 (nth v0 3)) fun b5 => .call (.fn (.func 361) [] [v1, b2]) [(I 1), b5] fun b6 => (a351x2 v0 v1 v5 b2 b4 b6)
def a351x4 (v0 : List AV) (v1 v5 v6 : AV) : AC := zf 7 v6 fun v7 => zl v7 fun v8 => zb .neq v8 (I 0) fun v9 => .ite v9 (zn v5 fun b0 => (a351x0 v5 b0)) (.op (.load 13 true v1) fun b0 => (a351x3 v0 v1 v5 b0))
def a351 : List AV → AC := fun v0 => .op (.box (nth v0 0)) fun v1 => .op (.load 13 true v1) fun v2 => zc 360 [v2, (nth v0 1), (nth v0 3), (nth v0 4)] fun v3 => .op (.build [(B false), (U 0), Nf, Nf, Nf, Nf, (I 0), (I 0)] [(0, 1, (B true)), (1, 1, (nth v0 1)), (7, 1, v3)]) fun v4 => .op (.box v4) fun v5 => zn v5 fun v6 => (a351x4 v0 v1 v5 v6)
theorem e351 : denFn prog f351 [10] = a351 := by kernel_rfl
def a352x0 (v0 : List AV) (v7 b2 : AV) : AC := zi v7 (B true) b2 fun b3 => .ite b3 (zr [(U 0)]) (zn (nth v0 0) fun b4 => zf 1 b4 fun b5 => zl b5 fun b6 => zr [b6])
def a352x1 (v0 : List AV) (v1 v6 : AV) : AC := zi v1 (B true) v6 fun v7 => zu v7 (.mv (nth v0 0)) fun v8 => zu v7 (.nilchk v8) fun v9 => zu v7 (.faddr 6 v9) fun b0 => zu v7 (.load 1 false b0) fun b1 => zu v7 (.bin .eql b1 (I 0)) fun b2 => (a352x0 v0 v7 b2)
def a352 : List AV → AC := fun v0 => .op (.eq 493 false (nth v0 0) Np) fun v1 => zu v1 (.mv (nth v0 0)) fun v2 => zu v1 (.nilchk v2) fun v3 => zu v1 (.faddr 7 v3) fun v4 => zu v1 (.load 1 false v4) fun v5 => zu v1 (.bin .neq v5 (I 0)) fun v6 => (a352x1 v0 v1 v6)
theorem e352 : denFn prog f352 [2] = a352 := by kernel_rfl
def a353x0 (v0 : List AV) (v5 v9 b2 : AV) : AC := zl b2 fun b3 => zl (nth v0 0) fun b4 => zn b4 fun b5 => zf 21 b5 fun b6 => zl b6 fun b7 => zc 354 [v5, v9, b3, b7] fun b8 => zr [b8]
def a353x1 (v0 : List AV) (v5 v6 : AV) : AC := zn v6 fun v7 => zf 23 v7 fun v8 => zl v8 fun v9 => zl (nth v0 0) fun b0 => zn b0 fun b1 => zf 19 b1 fun b2 => (a353x0 v0 v5 v9 b2)
def a353 : List AV → AC := fun v0 => zl (nth v0 0) fun v1 => zn v1 fun v2 => zf 0 v2 fun v3 => zf 0 v3 fun v4 => .op (.load 13 true v4) fun v5 => zl (nth v0 0) fun v6 => (a353x1 v0 v5 v6)
theorem e353 : denFn prog f353 [] = a353 := by kernel_rfl
def a354x0 (v6 : AV) : AC := zc 365 [v6, (I 1)] fun bb => zn v6 fun bc => zf 19 bc fun bd => zs bd bb fun be => zm []
def a354x1 (v6 b2 b4 : AV) : AC := .op (.store 3 b4 b2) fun b5 => zf 0 b4 fun b6 => zl b6 fun b7 => zn v6 fun b8 => zf 17 b8 fun b9 => zs b9 b7 fun ba => (a354x0 v6)
def a354x2 (v0 : List AV) (v6 b0 : AV) : AC := .ite b0 (zc 364 [(nth v0 1)] fun b1 => .op (.extract 0 b1) fun b2 => .op (.extract 1 b1) fun b3 => .op (.alloc [(I 0), (I 0), (B false)]) fun b4 => (a354x1 v6 b2 b4)) (zm [])
def a354x3 (v0 : List AV) (v5 : AV) : AC := .op (.box v5) fun v6 => zn v6 fun v7 => zf 25 v7 fun v8 => zl v8 fun v9 => zb .eql v9 (I 0) fun b0 => .bind (a354x2 v0 v6 b0) none (fun b1 => zr [v6]) (fun b1 => [Np])
def a354 : List AV → AC := fun v0 => .op (.box (nth v0 0)) fun v1 => .op (.load 13 true v1) fun v2 => .op (.load 13 true v1) fun v3 => zc 363 [v3, (nth v0 1), (nth v0 3)] fun v4 => .chk (.load 13 true v1) v2 (.op (.build [(I 0), (I 0), (I 0), (I 0), (I 0), (I 0), (I 0), (I 0), (I 0), (I 0), (I 0), (I 0), (I 0), (B false), (B false), (U 0), (U 0), (I 0), (I 0), (I 0), (I 0), (U 0), Np, Np, (U 0), (I 0)] [(0, 13, v2), (13, 1, (B true)), (15, 1, (nth v0 1)), (16, 1, (nth v0 2)), (18, 1, (nth v0 3)), (25, 1, v4)]) fun v5 => (a354x3 v0 v5))
theorem e354 : denFn prog f354 [] = a354 := by kernel_rfl
def a355 : List AV → AC := fun v0 => .op (.eq 501 false (nth v0 0) Np) fun v1 => .ite v1 (zr [(U 0)]) (zn (nth v0 0) fun v2 => zf 24 v2 fun v3 => zl v3 fun v4 => zr [v4])
theorem e355 : denFn prog f355 [2] = a355 := by kernel_rfl
def a358x0 (v1 b3 : AV) : AC := zt b3 (.faddr 1 v1) fun b4 => zt b3 (.load 1 false b4) fun b5 => zt b3 (.bin .neq b5 (I 0)) fun b6 => zi b3 b6 (B false) fun b7 => .ite b7 (zr [(I 5), (U 0)]) (zm [(I 0), (U 0)])
def a358x1 (v1 v9 : AV) : AC := .op (.un .not v9) fun b0 => .ite b0 (zr [(I 3), (U 0)]) (zf 0 v1 fun b1 => zl b1 fun b2 => zb .eql b2 (I (-1)) fun b3 => (a358x0 v1 b3))
def a358x2 (v1 v3 : AV) : AC := .op (.build [(I 0), (I 0), (I 0)] [(0, 1, v3), (1, 1, (I (-1))), (2, 1, (I 65534))]) fun v4 => zf 1 v1 fun v5 => zl v5 fun v6 => .op (.build [(I 0), (I 0), (I 0)] [(0, 1, v6), (1, 1, (I 0)), (2, 1, (I 4294967295))]) fun v7 => .op (.bslice 3 2 [(I 0), (I 0), (I 0)] [(0, 3, v4), (3, 3, v7)]) fun v8 => zc 176 [v8] fun v9 => (a358x1 v1 v9)
def a358x3 (b4 b5 : AV) : AC := zc 370 [b5, b4] fun b6 => zr [b6, (I 0)]
def a358x4 (v1 v6 v9 b0 : AV) : AC := zl b0 fun b1 => .op (.bslice 1 2 [(I 0)] [(0, 1, v9), (1, 1, b1)]) fun b2 => zf 2 v1 fun b3 => zl b3 fun b4 => zc 177 [v6, b2] fun b5 => .chk (.load 1 false b3) b4 (a358x3 b4 b5)
def a358x5 (v1 v3 v4 : AV) : AC := .op (.store 4 v4 v3) fun v5 => .op (.aslice 2 2 v4 none none none) fun v6 => zf 0 v1 fun v7 => zl v7 fun v8 => zb .add v8 (I 1) fun v9 => zf 1 v1 fun b0 => (a358x4 v1 v6 v9 b0)
def a358 : List AV → AC := fun v0 => .op (.box (nth v0 0)) fun v1 => .bind (zf 0 v1 fun v2 => zl v2 fun v3 => (a358x2 v1 v3)) (some 0) (fun v2 => zc 369 [] fun v3 => .op (.alloc [(I 0), (I 0), (I 0), (I 0)]) fun v4 => (a358x5 v1 v3 v4)) (fun v2 => [(nth v2 1), (nth v2 0)])
theorem e358 : denFn prog f358 [2, 3] = a358 := by kernel_rfl
def a359 : List AV → AC := fun v0 => zb .and (nth v0 0) (U 4294967295) fun v1 => .op (.conv .i64 v1) fun v2 => zr [v2]
theorem e359 : denFn prog f359 [] = a359 := by kernel_rfl
def a360x0 (bo bp br : AV) : AC := zu bo (.bin .gtr bp br) fun bs => zi bo (B true) bs fun bt => .ite bt (zr [(I 3)]) (zm [(I 0)])
def a360x1 (v0 : List AV) (v1 bl : AV) : AC := zu bl (.mv (nth v0 3)) fun bm => zu bl (.bin .lss bm (I 1)) fun bn => zi bl (B true) bn fun bo => zu bo (.mv (nth v0 3)) fun bp => zu bo (.faddr 2 v1) fun bq => zu bo (.load 1 false bq) fun br => (a360x0 bo bp br)
def a360x2 (v0 : List AV) (v1 bf : AV) : AC := zu bf (.mv (nth v0 2)) fun bg => zu bf (.bin .lss bg (I 0)) fun bh => zi bf (B true) bh fun bi => zu bi (.mv (nth v0 2)) fun bj => zu bi (.bin .gtr bj (I 65534)) fun bk => zi bi (B true) bk fun bl => (a360x1 v0 v1 bl)
def a360x3 (v0 : List AV) (v1 b6 b8 b9 : AV) : AC := zu b6 (.faddr 0 b9) fun ba => zu b6 (.faddr 0 ba) fun bb => zu b6 (.faddr 2 bb) fun bc => zu b6 (.load 1 false bc) fun bd => zu b6 (.bin .geq b8 bd) fun be => zi b6 (B true) be fun bf => (a360x2 v0 v1 bf)
def a360x4 (v0 : List AV) (v1 v8 b3 : AV) : AC := zu b3 (.faddr 2 v8) fun b4 => zu b3 (.load 1 false b4) fun b5 => zi b3 (B true) b5 fun b6 => zu b6 (.faddr 0 v8) fun b7 => zu b6 (.load 1 false b7) fun b8 => zu b6 (.faddr 3 v1) fun b9 => (a360x3 v0 v1 b6 b8 b9)
def a360x5 (v0 : List AV) (v1 v7 v8 : AV) : AC := zb .neq v7 (I 0) fun b0 => .ite b0 (zr [(I 5)]) (zf 0 v8 fun b1 => zl b1 fun b2 => zb .lss b2 (I 0) fun b3 => (a360x4 v0 v1 v8 b3))
def a360x6 (v0 : List AV) (v1 : AV) : AC := zc 364 [(nth v0 1)] fun v5 => .op (.extract 0 v5) fun v6 => .op (.extract 1 v5) fun v7 => .op (.alloc [(I 0), (I 0), (B false)]) fun v8 => .op (.store 3 v8 v6) fun v9 => .bind (a360x5 v0 v1 v7 v8) (some 0) (fun b0 => zr [(I 0)]) (fun b0 => [(nth b0 0)])
def a360 : List AV → AC := fun v0 => .op (.box (nth v0 0)) fun v1 => .op (.load 13 true v1) fun v2 => zc 57 [v2] fun v3 => .op (.un .not v3) fun v4 => .ite v4 (zr [(I 2)]) (a360x6 v0 v1)
theorem e360 : denFn prog f360 [8] = a360 := by kernel_rfl
def a361 : List AV → AC := fun v0 => .op (.box (nth v0 0)) fun v1 => .op (.box (nth v0 1)) fun v2 => zr [(.fn (.func 362) [] [(nth v0 2), (nth v0 3), v1, v2])]
theorem e361 : denFn prog f361 [] = a361 := by kernel_rfl
def a362x0 (v0 : List AV) (v4 v5 : AV) : AC := zc 76 [(nth v0 0), v5, v4] fun v6 => zr []
def a362 : List AV → AC := fun v0 => .op (.load 13 true (nth v0 1)) fun v1 => zl (nth v0 2) fun v2 => zl (nth v0 3) fun v3 => zl (nth v0 4) fun v4 => zc 29 [v1, v2, v3] fun v5 => .chk (.load 1 false (nth v0 4)) v4 (a362x0 v0 v4 v5)
theorem e362 : denFn prog f362 [] = a362 := by kernel_rfl
def a363x0 (bi bj bl : AV) : AC := zu bi (.bin .gtr bj bl) fun bm => zi bi (B true) bm fun bn => .ite bn (zr [(I 3)]) (zm [(I 0)])
def a363x1 (v0 : List AV) (v1 bf : AV) : AC := zu bf (.mv (nth v0 2)) fun bg => zu bf (.bin .lss bg (I 1)) fun bh => zi bf (B true) bh fun bi => zu bi (.mv (nth v0 2)) fun bj => zu bi (.faddr 2 v1) fun bk => zu bi (.load 1 false bk) fun bl => (a363x0 bi bj bl)
def a363x2 (v0 : List AV) (v1 b6 b8 b9 : AV) : AC := zu b6 (.faddr 0 b9) fun ba => zu b6 (.faddr 0 ba) fun bb => zu b6 (.faddr 2 bb) fun bc => zu b6 (.load 1 false bc) fun bd => zu b6 (.bin .geq b8 bd) fun be => zi b6 (B true) be fun bf => (a363x1 v0 v1 bf)
def a363x3 (v0 : List AV) (v1 v8 b3 : AV) : AC := zu b3 (.faddr 2 v8) fun b4 => zu b3 (.load 1 false b4) fun b5 => zi b3 (B true) b5 fun b6 => zu b6 (.faddr 0 v8) fun b7 => zu b6 (.load 1 false b7) fun b8 => zu b6 (.faddr 3 v1) fun b9 => (a363x2 v0 v1 b6 b8 b9)
def a363x4 (v0 : List AV) (v1 v7 v8 : AV) : AC := zb .neq v7 (I 0) fun b0 => .ite b0 (zr [(I 5)]) (zf 0 v8 fun b1 => zl b1 fun b2 => zb .lss b2 (I 0) fun b3 => (a363x3 v0 v1 v8 b3))
def a363x5 (v0 : List AV) (v1 : AV) : AC := zc 364 [(nth v0 1)] fun v5 => .op (.extract 0 v5) fun v6 => .op (.extract 1 v5) fun v7 => .op (.alloc [(I 0), (I 0), (B false)]) fun v8 => .op (.store 3 v8 v6) fun v9 => .bind (a363x4 v0 v1 v7 v8) (some 0) (fun b0 => zr [(I 0)]) (fun b0 => [(nth b0 0)])
def a363 : List AV → AC := fun v0 => .op (.box (nth v0 0)) fun v1 => .op (.load 13 true v1) fun v2 => zc 29 [v2, (I 0), (I 0)] fun v3 => zb .lss v3 (I 0) fun v4 => .ite v4 (zr [(I 2)]) (a363x5 v0 v1)
theorem e363 : denFn prog f363 [6] = a363 := by kernel_rfl
def a364x0 (v1 : AV) : AC := .op (.build [(I 0), (I 0), (B false)] []) fun bf => .op (.store 3 v1 bf) fun bg => zr [v1, (I 5)]
def a364x1 (v1 v9 : AV) : AC := .op (.load 3 true v9) fun bf => .op (.store 3 v1 bf) fun bg => zr [v1, (I 0)]
def a364x2 (v0 : List AV) (v1 v9 b8 ba : AV) : AC := zu ba (.mv b8) fun bb => zu ba (.mv (nth v0 0)) fun bc => zu ba (.bin .neq bb bc) fun bd => zi ba (B true) bd fun be => .ite be (a364x0 v1) (a364x1 v1 v9)
def a364x3 (v0 : List AV) (v1 v9 b4 : AV) : AC := .op (.store 3 v9 b4) fun b5 => .op (.load 3 true v9) fun b6 => zc 358 [b6] fun b7 => .op (.extract 0 b7) fun b8 => .op (.extract 1 b7) fun b9 => zb .neq b9 (I 0) fun ba => (a364x2 v0 v1 v9 b8 ba)
def a364x4 (v0 : List AV) (v1 v6 v7 v8 v9 : AV) : AC := zc 155 [(nth v0 0), v6] fun b0 => .chk (.load 2 true v7) v8 (zb .sub b0 (I 1) fun b1 => zc 155 [(nth v0 0), v8] fun b2 => zc 86 [(nth v0 0)] fun b3 => .op (.build [(I 0), (I 0), (B false)] [(0, 1, b1), (1, 1, b2), (2, 1, b3)]) fun b4 => (a364x3 v0 v1 v9 b4))
def a364x5 (v0 : List AV) (v1 v2 v3 : AV) : AC := .op (.store 4 v3 v2) fun v4 => .op (.paddr 2 2 v3 (I 0)) fun v5 => .op (.load 2 true v5) fun v6 => .op (.paddr 2 2 v3 (I 1)) fun v7 => .op (.load 2 true v7) fun v8 => .op (.alloc [(I 0), (I 0), (B false)]) fun v9 => (a364x4 v0 v1 v6 v7 v8 v9)
def a364 : List AV → AC := fun v0 => .fin (.op (.alloc [(I 0), (I 0), (B false)]) fun v1 => zc 369 [] fun v2 => .op (.alloc [(I 0), (I 0), (I 0), (I 0)]) fun v3 => (a364x5 v0 v1 v2 v3)) fun v1 => .op (.load 3 true (nth v1 0)) fun v2 => zr [v2, (nth v1 1)]
theorem e364 : denFn prog f364 [3] = a364 := by kernel_rfl
def a365x0 (v0 : List AV) (v3 v6 : AV) : AC := zc 371 [v3, v6] fun v7 => zn (nth v0 0) fun v8 => zf 22 v8 fun v9 => zs v9 v7 fun b0 => zr [(nth v0 1)]
def a365 : List AV → AC := fun v0 => zn (nth v0 0) fun v1 => zf 0 v1 fun v2 => .op (.load 13 true v2) fun v3 => zn (nth v0 0) fun v4 => zf 16 v4 fun v5 => zl v5 fun v6 => (a365x0 v0 v3 v6)
theorem e365 : denFn prog f365 [] = a365 := by kernel_rfl
def a369x0 (v1 v2 v3 : AV) : AC := .op (.build [(I 0), (I 0), (I 0), (I 0)] [(0, 2, v2), (2, 2, v3)]) fun v4 => .op (.store 4 v1 v4) fun v5 => zr [v1]
def a369 : List AV → AC := fun v0 => .fin (.op (.alloc [(I 0), (I 0), (I 0), (I 0)]) fun v1 => .op (.build [(I 0), (I 0)] [(0, 1, (I 0)), (1, 1, (I 16))]) fun v2 => .op (.build [(I 0), (I 0)] [(0, 1, (I 16)), (1, 1, (I 32))]) fun v3 => (a369x0 v1 v2 v3)) fun v1 => .op (.load 4 true (nth v1 0)) fun v2 => zr [v2]
theorem e369 : denFn prog f369 [] = a369 := by kernel_rfl
def a370 : List AV → AC := fun v0 => .ite (nth v0 1) (zb .or (nth v0 0) (U 9223372036854775808) fun v1 => zr [v1]) (zb .andNot (nth v0 0) (U 9223372036854775808) fun v1 => zr [v1])
theorem e370 : denFn prog f370 [4] = a370 := by kernel_rfl
def a371x0 (v4 : AV) : AC := zn v4 fun b1 => zf 23 b1 fun b2 => zs b2 (I 2) fun b3 => zr [v4]
def a371x1 (v4 b0 : AV) : AC := zn v4 fun b1 => zf 20 b1 fun b2 => zs b2 b0 fun b3 => zc 379 [v4] fun b4 => zr [v4]
def a371x2 (v1 v4 v6 : AV) : AC := zb .lss v6 (I 0) fun v7 => .ite v7 (zn v4 fun v8 => zf 14 v8 fun v9 => zs v9 (I 9) fun b0 => (a371x0 v4)) (zf 2 v1 fun v8 => zl v8 fun v9 => .op (.mkslice 4 32 [(I 0), (I 0), (U 0), (U 0)] v9 v9) fun b0 => (a371x1 v4 b0))
def a371 : List AV → AC := fun v0 => .op (.box (nth v0 0)) fun v1 => .op (.load 13 true v1) fun v2 => .op (.build [(I 0), (I 0), (I 0), (I 0), (I 0), (I 0), (I 0), (I 0), (I 0), (I 0), (I 0), (I 0), (I 0), (U 0), (I 0), (I 0), (I 0), (U 0), (U 0), (U 0), Ns, (U 0), (B false), (I 0)] [(0, 13, v2), (13, 1, (nth v0 1)), (22, 1, (B true))]) fun v3 => .op (.box v3) fun v4 => .op (.load 13 true v1) fun v5 => zc 88 [v5, (I (-1)), (I 0)] fun v6 => (a371x2 v1 v4 v6)
theorem e371 : denFn prog f371 [4] = a371 := by kernel_rfl
def a379 : List AV → AC := fun v0 => zn (nth v0 0) fun v1 => zf 0 v1 fun v2 => zf 2 v2 fun v3 => zl v3 fun v4 => zb .sub v4 (I 1) fun v5 => zc 386 [(nth v0 0), v5] fun v6 => zr []
theorem e379 : denFn prog f379 [] = a379 := by kernel_rfl
def a382x0 (v0 : List AV) (b6 : AV) : AC := zl b6 fun b7 => .call b7 [(nth v0 1)] fun b8 => zn (nth v0 0) fun b9 => zf 3 b9 fun ba => zl ba fun bb => zb .eql bb (I (-1)) fun bc => zr [bc]
def a382x1 (v0 : List AV) : AC := zn (nth v0 0) fun b1 => zf 3 b1 fun b2 => zl b2 fun b3 => zn (nth v0 0) fun b4 => zf 0 b4 fun b5 => .op (.paddr 3 1 b5 b3) fun b6 => (a382x0 v0 b6)
def a382x2 (v0 : List AV) (v4 v6 : AV) : AC := zu v4 (.faddr 3 v6) fun v7 => zu v4 (.load 1 false v7) fun v8 => zu v4 (.bin .eql v8 (I (-1))) fun v9 => zi v4 (B true) v9 fun b0 => .ite b0 (zr [(B true)]) (a382x1 v0)
def a382 : List AV → AC := fun v0 => zn (nth v0 0) fun v1 => zf 4 v1 fun v2 => zl v2 fun v3 => .op (.un .not v3) fun v4 => zu v4 (.mv (nth v0 0)) fun v5 => zu v4 (.nilchk v5) fun v6 => (a382x2 v0 v4 v6)
theorem e382 : denFn prog f382 [4] = a382 := by kernel_rfl
def a386x0 (be : AV) : AC := zf 14 be fun bf => zs bf (I 1) fun bg => zr []
def a386x1 (v1 b4 b8 b9 : AV) : AC := .op (.load 4 true b4) fun ba => zn b8 fun bb => zf 15 bb fun bc => .op (.store 4 bc ba) fun bd => .chk (.load 1 false v1) b9 (zn b9 fun be => (a386x0 be))
def a386x2 (v1 v2 : AV) (b3 : List AV) (b4 : AV) : AC := zl v2 fun b6 => zb .eql (nth b3 1) b6 fun b7 => .ite b7 (zl v1 fun b8 => zl v1 fun b9 => (a386x1 v1 b4 b8 b9)) (zm [])
def a386x3 (v1 v2 : AV) (b3 : List AV) : AC := .op (.alloc [(I 0), (I 0), (U 0), (U 0)]) fun b4 => .op (.store 4 b4 (nth b3 2)) fun b5 => .start (nth b3 0) (.bind (a386x2 v1 v2 b3 b4) (some 1) (fun b6 => zm []) (fun b6 => []))
def a386x4 (b6 : AV) : AC := zs b6 (I 9) fun b7 => zr []
def a386x5 (v1 v2 b2 : AV) : AC := .bind (.rng 2 b2 (fun b3 => (a386x3 v1 v2 b3)) (zm []) []) (some 0) (fun b3 => zl v1 fun b4 => zn b4 fun b5 => zf 14 b5 fun b6 => (a386x4 b6)) (fun b3 => [])
def a386x6 (v1 v2 v6 : AV) : AC := zl v6 fun v7 => zl v1 fun v8 => zn v8 fun v9 => zf 20 v9 fun b0 => zl b0 fun b1 => zc 389 [v7, b1] fun b2 => (a386x5 v1 v2 b2)
def a386 : List AV → AC := fun v0 => .op (.box (nth v0 0)) fun v1 => .op (.box (nth v0 1)) fun v2 => zl v1 fun v3 => zn v3 fun v4 => zf 0 v4 fun v5 => zf 2 v5 fun v6 => (a386x6 v1 v2 v6)
theorem e386 : denFn prog f386 [] = a386 := by kernel_rfl
def a389 : List AV → AC := fun v0 => .op (.box (nth v0 0)) fun v1 => .op (.box (nth v0 1)) fun v2 => zr [(.fn (.func 392) [] [v1, v2])]
theorem e389 : denFn prog f389 [] = a389 := by kernel_rfl
def a392x0 (v0 : List AV) (v2 : AV) (v6 : List AV) : AC := zl (nth v0 2) fun b5 => .op (.saddr 4 b5 (nth v6 0)) fun b6 => .op (.load 4 true b6) fun b7 => .op (.store 4 v2 b7) fun b8 => zm []
def a392x1 (v0 : List AV) (v2 : AV) (v6 : List AV) (b0 : AV) : AC := zs b0 (U 0) fun b1 => .op (.load 4 true v2) fun b2 => .call (nth v0 0) [(nth v6 0), b2] fun b3 => .op (.un .not b3) fun b4 => .ite b4 (zr []) (a392x0 v0 v2 v6)
def a392x2 (v0 : List AV) (v2 : AV) (v6 : List AV) : AC := .bind (zf 0 v2 fun v8 => zs v8 (nth v6 0) fun v9 => zf 3 v2 fun b0 => (a392x1 v0 v2 v6 b0)) (some 1) (fun v8 => zb .sub (nth v6 0) (I 1) fun v9 => zm [v9]) (fun v8 => [(nth v6 0)])
def a392x3 (v0 : List AV) (v2 v5 : AV) : AC := .loop [v5] (fun v6 => zb .geq (nth v6 0) (I 0) fun v7 => .ite v7 (a392x2 v0 v2 v6) (.ret (.exit 0) [(nth v6 0)])) (fun v6 => [(nth v6 0)])
def a392 : List AV → AC := fun v0 => .op (.build [(I 0), (I 0), (U 0), (U 0)] [(1, 1, (I (-1)))]) fun v1 => .op (.alloc [(I 0), (I 0), (U 0), (U 0)]) fun v2 => .op (.store 4 v2 v1) fun v3 => zl (nth v0 1) fun v4 => zb .sub v4 (I 1) fun v5 => .bind (a392x3 v0 v2 v5) (some 0) (fun v6 => zr []) (fun v6 => [])
theorem e392 : denFn prog f392 [5] = a392 := by kernel_rfl
def a413 : List AV → AC := fun v0 => .ret .ret [(nth v0 0)]
theorem e413 : denFn prog f413 [] = a413 := by kernel_rfl
def a414x0 (v0 : List AV) (b0 : AV) : AC := .call b0 [(nth v0 1)] fun b1 => zn (nth v0 0) fun b2 => zf 5 b2 fun b3 => zl b3 fun b4 => .op (.eq 205 false b4 Nf) fun b5 => zr [b5]
def a414x1 (v0 : List AV) (v1 v6 : AV) : AC := zi v1 (B true) v6 fun v7 => .ite v7 (zr [(B true)]) (zn (nth v0 0) fun v8 => zf 5 v8 fun v9 => zl v9 fun b0 => (a414x0 v0 b0))
def a414 : List AV → AC := fun v0 => .op (.eq 188 false (nth v0 0) Np) fun v1 => zu v1 (.mv (nth v0 0)) fun v2 => zu v1 (.nilchk v2) fun v3 => zu v1 (.faddr 5 v3) fun v4 => zu v1 (.load 1 false v4) fun v5 => zu v1 (.eq 205 false v5 Nf) fun v6 => (a414x1 v0 v1 v6)
theorem e414 : denFn prog f414 [4] = a414 := by kernel_rfl
def a415x0 (v1 v6 : AV) : AC := zi v1 (B true) v6 fun v7 => zr [v7]
def a415 : List AV → AC := fun v0 => .op (.eq 194 false (nth v0 0) Np) fun v1 => zu v1 (.mv (nth v0 0)) fun v2 => zu v1 (.nilchk v2) fun v3 => zu v1 (.faddr 0 v3) fun v4 => zu v1 (.mv (nth v0 1)) fun v5 => .gcall v1 false (zF 416) [v4, v5] fun v6 => (a415x0 v1 v6)
theorem e415 : denFn prog f415 [] = a415 := by kernel_rfl
def a416x0 (b0 : AV) : AC := zf 7 b0 fun b1 => zl b1 fun b2 => .op (.eq 205 false b2 Nf) fun b3 => zr [b3]
def a416x1 (v1 v2 v6 : AV) : AC := .op (.eq 205 false v6 Nf) fun v7 => .ite v7 (zr [(B true)]) (.call (.fn (.func 417) [] [v1, v2]) [] fun v8 => zl v1 fun v9 => zn v9 fun b0 => (a416x0 b0))
def a416 : List AV → AC := fun v0 => .op (.box (nth v0 0)) fun v1 => .op (.box (nth v0 1)) fun v2 => zl v1 fun v3 => zn v3 fun v4 => zf 7 v4 fun v5 => zl v5 fun v6 => (a416x1 v1 v2 v6)
theorem e416 : denFn prog f416 [4] = a416 := by kernel_rfl
def a417x0 (v0 : List AV) (v3 : AV) : AC := zl v3 fun v4 => zl (nth v0 1) fun v5 => .call v4 [v5] fun v6 => zr []
def a417 : List AV → AC := fun v0 => .fin (zl (nth v0 0) fun v1 => zn v1 fun v2 => zf 7 v2 fun v3 => (a417x0 v0 v3)) fun v1 => .call (.fn (.func 418) [] [(nth v0 0)]) [] fun v2 => zr []
theorem e417 : denFn prog f417 [] = a417 := by kernel_rfl
def a418x0 (v5 v6 : AV) : AC := zf 7 v6 fun v7 => zs v7 v5 fun v8 => zr []
def a418 : List AV → AC := fun v0 => zl (nth v0 0) fun v1 => zl (nth v0 0) fun v2 => zn v2 fun v3 => zf 8 v3 fun v4 => zl v4 fun v5 => zn v1 fun v6 => (a418x0 v5 v6)
theorem e418 : denFn prog f418 [] = a418 := by kernel_rfl
def a419x0 (v0 : List AV) (b5 b7 : AV) : AC := zs b7 b5 fun b8 => zn (nth v0 0) fun b9 => zf 1 b9 fun ba => zs ba Np fun bb => zm []
def a419x1 (v0 : List AV) : AC := zn (nth v0 0) fun b2 => zf 1 b2 fun b3 => zl b3 fun b4 => zc 421 [b4] fun b5 => zn (nth v0 0) fun b6 => zf 2 b6 fun b7 => (a419x0 v0 b5 b7)
def a419x2 (v0 : List AV) (b0 : AV) : AC := zc 420 [b0, (nth v0 1)] fun b1 => .bind (.ite b1 (a419x1 v0) (zm [])) none (fun b2 => zr [b1]) (fun b2 => [(B false)])
def a419x3 (v0 : List AV) (v1 v6 : AV) : AC := zi v1 (B true) v6 fun v7 => .ite v7 (zr [(B true)]) (zn (nth v0 0) fun v8 => zf 1 v8 fun v9 => zl v9 fun b0 => (a419x2 v0 b0))
def a419 : List AV → AC := fun v0 => .op (.eq 209 false (nth v0 0) Np) fun v1 => zu v1 (.mv (nth v0 0)) fun v2 => zu v1 (.nilchk v2) fun v3 => zu v1 (.faddr 1 v3) fun v4 => zu v1 (.load 1 false v4) fun v5 => zu v1 (.eq 286 false v5 Np) fun v6 => (a419x3 v0 v1 v6)
theorem e419 : denFn prog f419 [4] = a419 := by kernel_rfl
def a420x0 (v1 v6 : AV) : AC := zi v1 (B true) v6 fun v7 => zr [v7]
def a420 : List AV → AC := fun v0 => .op (.eq 286 false (nth v0 0) Np) fun v1 => zu v1 (.mv (nth v0 0)) fun v2 => zu v1 (.nilchk v2) fun v3 => zu v1 (.faddr 0 v3) fun v4 => zu v1 (.mv (nth v0 1)) fun v5 => .gcall v1 false (zF 422) [v4, v5] fun v6 => (a420x0 v1 v6)
theorem e420 : denFn prog f420 [] = a420 := by kernel_rfl
def a421 : List AV → AC := fun v0 => .op (.eq 286 false (nth v0 0) Np) fun v1 => .ite v1 (zr [(I 1)]) (zn (nth v0 0) fun v2 => zf 0 v2 fun v3 => zc 258 [v3] fun v4 => zr [v4])
theorem e421 : denFn prog f421 [2] = a421 := by kernel_rfl
def a422x0 (v0 : List AV) (v4 : AV) : AC := .ite v4 (zn (nth v0 0) fun v5 => zf 4 v5 fun v6 => zl v6 fun v7 => .call v7 [(nth v0 1)] fun v8 => zm []) (zm [])
def a422x1 (v0 : List AV) : AC := zn (nth v0 0) fun v6 => zf 4 v6 fun v7 => zl v7 fun v8 => .op (.eq 205 false v8 Nf) fun v9 => zr [v9]
def a422 : List AV → AC := fun v0 => zn (nth v0 0) fun v1 => zf 4 v1 fun v2 => zl v2 fun v3 => .op (.eq 205 true v3 Nf) fun v4 => .bind (a422x0 v0 v4) none (fun v5 => (a422x1 v0)) (fun v5 => [(B false)])
theorem e422 : denFn prog f422 [] = a422 := by kernel_rfl
def a424x0 (v1 v6 : AV) : AC := zi v1 (B true) v6 fun v7 => zr [v7]
def a424 : List AV → AC := fun v0 => .op (.eq 219 false (nth v0 0) Np) fun v1 => zu v1 (.mv (nth v0 0)) fun v2 => zu v1 (.nilchk v2) fun v3 => zu v1 (.faddr 0 v3) fun v4 => zu v1 (.mv (nth v0 1)) fun v5 => .gcall v1 false (zF 422) [v4, v5] fun v6 => (a424x0 v1 v6)
theorem e424 : denFn prog f424 [] = a424 := by kernel_rfl
def a425x0 (v1 v6 : AV) : AC := zi v1 (B true) v6 fun v7 => zr [v7]
def a425 : List AV → AC := fun v0 => .op (.eq 274 false (nth v0 0) Np) fun v1 => zu v1 (.mv (nth v0 0)) fun v2 => zu v1 (.nilchk v2) fun v3 => zu v1 (.faddr 0 v3) fun v4 => zu v1 (.mv (nth v0 1)) fun v5 => .gcall v1 false (zF 416) [v4, v5] fun v6 => (a425x0 v1 v6)
theorem e425 : denFn prog f425 [] = a425 := by kernel_rfl
def a426x0 (v1 v6 : AV) : AC := zi v1 (B true) v6 fun v7 => zr [v7]
def a426 : List AV → AC := fun v0 => .op (.eq 283 false (nth v0 0) Np) fun v1 => zu v1 (.mv (nth v0 0)) fun v2 => zu v1 (.nilchk v2) fun v3 => zu v1 (.faddr 0 v3) fun v4 => zu v1 (.mv (nth v0 1)) fun v5 => .gcall v1 false (zF 416) [v4, v5] fun v6 => (a426x0 v1 v6)
theorem e426 : denFn prog f426 [] = a426 := by kernel_rfl
def a427x0 (v1 v6 : AV) : AC := zi v1 (B true) v6 fun v7 => zr [v7]
def a427 : List AV → AC := fun v0 => .op (.eq 291 false (nth v0 0) Np) fun v1 => zu v1 (.mv (nth v0 0)) fun v2 => zu v1 (.nilchk v2) fun v3 => zu v1 (.faddr 0 v3) fun v4 => zu v1 (.mv (nth v0 1)) fun v5 => .gcall v1 false (zF 416) [v4, v5] fun v6 => (a427x0 v1 v6)
theorem e427 : denFn prog f427 [] = a427 := by kernel_rfl
def a428x0 (v1 v6 : AV) : AC := zi v1 (B true) v6 fun v7 => zr [v7]
def a428 : List AV → AC := fun v0 => .op (.eq 295 false (nth v0 0) Np) fun v1 => zu v1 (.mv (nth v0 0)) fun v2 => zu v1 (.nilchk v2) fun v3 => zu v1 (.faddr 0 v3) fun v4 => zu v1 (.mv (nth v0 1)) fun v5 => .gcall v1 false (zF 422) [v4, v5] fun v6 => (a428x0 v1 v6)
theorem e428 : denFn prog f428 [] = a428 := by kernel_rfl
def a429x0 (v1 v6 : AV) : AC := zi v1 (B true) v6 fun v7 => zr [v7]
def a429 : List AV → AC := fun v0 => .op (.eq 300 false (nth v0 0) Np) fun v1 => zu v1 (.mv (nth v0 0)) fun v2 => zu v1 (.nilchk v2) fun v3 => zu v1 (.faddr 0 v3) fun v4 => zu v1 (.mv (nth v0 1)) fun v5 => .gcall v1 false (zF 416) [v4, v5] fun v6 => (a429x0 v1 v6)
theorem e429 : denFn prog f429 [] = a429 := by kernel_rfl
def a430x0 (v4 : AV) : AC := zl v4 fun v5 => zr [v5]
def a430 : List AV → AC := fun v0 => .op (.eq 306 false (nth v0 0) Np) fun v1 => .ite v1 (zr [(U 0)]) (zn (nth v0 0) fun v2 => zf 0 v2 fun v3 => zf 17 v3 fun v4 => (a430x0 v4))
theorem e430 : denFn prog f430 [2] = a430 := by kernel_rfl
def a431x0 (v1 v6 : AV) : AC := zi v1 (B true) v6 fun v7 => zr [v7]
def a431 : List AV → AC := fun v0 => .op (.eq 306 false (nth v0 0) Np) fun v1 => zu v1 (.mv (nth v0 0)) fun v2 => zu v1 (.nilchk v2) fun v3 => zu v1 (.faddr 0 v3) fun v4 => zu v1 (.mv (nth v0 1)) fun v5 => .gcall v1 false (zF 432) [v4, v5] fun v6 => (a431x0 v1 v6)
theorem e431 : denFn prog f431 [] = a431 := by kernel_rfl
def a432x0 (bj bk : AV) : AC := zf 16 bk fun bl => zs bl bj fun bm => zm []
def a432x1 (v0 : List AV) (b0 : AV) : AC := .op (.bslice 1 1 [Ni] [(0, 1, b0)]) fun bf => zn (nth v0 0) fun bg => zf 16 bg fun bh => zl bh fun bi => .op (.append 1 16 bf bi) fun bj => zn (nth v0 0) fun bk => (a432x0 bj bk)
def a432x2 (bh : AV) : AC := zl bh fun bi => .op (.len false bi) fun bj => zb .eql bj (I 0) fun bk => zr [bk]
def a432x3 (v0 : List AV) (b0 b9 : AV) : AC := .op (.un .not b9) fun be => .bind (.ite be (a432x1 v0 b0) (zm [])) none (fun bf => zn (nth v0 0) fun bg => zf 16 bg fun bh => (a432x2 bh)) (fun bf => [(B false)])
def a432x4 (v0 : List AV) (b0 : AV) : AC := .call (.fn (.method "coxswain/ready.run") [] []) [b0, (nth v0 1)] fun b8 => .op (.extract 0 b8) fun b9 => .op (.extract 1 b8) fun ba => zn (nth v0 0) fun bb => zf 17 bb fun bc => zs bc ba fun bd => (a432x3 v0 b0 b9)
def a432x5 (v0 : List AV) (b0 b1 : AV) : AC := zf 16 b1 fun b2 => zl b2 fun b3 => .op (.sslice 1 b3 (some (I 1)) none none) fun b4 => zn (nth v0 0) fun b5 => zf 16 b5 fun b6 => zs b6 b4 fun b7 => (a432x4 v0 b0)
def a432x6 (v0 : List AV) : AC := zn (nth v0 0) fun v6 => zf 16 v6 fun v7 => zl v7 fun v8 => .op (.saddr 1 v8 (I 0)) fun v9 => zl v9 fun b0 => zn (nth v0 0) fun b1 => (a432x5 v0 b0 b1)
def a432 : List AV → AC := fun v0 => zn (nth v0 0) fun v1 => zf 16 v1 fun v2 => zl v2 fun v3 => .op (.len false v3) fun v4 => zb .eql v4 (I 0) fun v5 => .ite v5 (zr [(B true)]) (a432x6 v0)
theorem e432 : denFn prog f432 [4] = a432 := by kernel_rfl
def a433 : List AV → AC := fun v0 => .op (.eq 317 false (nth v0 0) Np) fun v1 => .ite v1 (zr [(U 0)]) (zn (nth v0 0) fun v2 => zf 10 v2 fun v3 => zl v3 fun v4 => zr [v4])
theorem e433 : denFn prog f433 [2] = a433 := by kernel_rfl
def a434x0 (v0 : List AV) : AC := zn (nth v0 0) fun bb => zf 12 bb fun bc => zl bc fun bd => zr [bd]
def a434x1 (v0 : List AV) (c1 c3 : AV) : AC := zn (nth v0 0) fun c4 => zf 8 c4 fun c5 => zs c5 c1 fun c6 => zn (nth v0 0) fun c7 => zf 12 c7 fun c8 => zs c8 c3 fun c9 => zm []
def a434x2 (v0 : List AV) (bv bw : AV) : AC := zf 6 bw fun bx => zl bx fun bz => zc 437 [bv, bz] fun c0 => .op (.extract 0 c0) fun c1 => .op (.extract 1 c0) fun c2 => .op (.un .not c2) fun c3 => (a434x1 v0 c1 c3)
def a434x3 (v0 : List AV) (bs : AV) : AC := .ite bs (zn (nth v0 0) fun bt => zf 7 bt fun bu => zl bu fun bv => zn (nth v0 0) fun bw => (a434x2 v0 bv bw)) (zm [])
def a434x4 (v0 : List AV) : AC := zn (nth v0 0) fun bu => zf 12 bu fun bv => zl bv fun bw => zr [bw]
def a434x5 (v0 : List AV) (bp : AV) : AC := zf 1 bp fun bq => zl bq fun br => zb .eql br (I 0) fun bs => .bind (a434x3 v0 bs) none (fun bt => (a434x4 v0)) (fun bt => [(B false)])
def a434x6 (v0 : List AV) (bh bj : AV) : AC := .op (.append 1 8 bh bj) fun bk => zn (nth v0 0) fun bl => zf 7 bl fun bm => zs bm bk fun bn => zn (nth v0 0) fun bo => zf 0 bo fun bp => (a434x5 v0 bp)
def a434x7 (v0 : List AV) (bd : AV) : AC := zn (nth v0 0) fun bf => zf 7 bf fun bg => zl bg fun bh => zc 132 [(nth v0 1), bd] fun bi => .chk (.load 1 false bg) bh (.op (.bslice 1 1 [(U 0)] [(0, 1, bi)]) fun bj => (a434x6 v0 bh bj))
def a434x8 (v0 : List AV) (bq : AV) : AC := zn (nth v0 0) fun br => zf 9 br fun bs => zs bs bq fun bt => zc 271 [(nth v0 0), (I 0)] fun bu => zr [(B true)]
def a434x9 (v0 : List AV) (bi bk : AV) : AC := zl bk fun bl => zb .add bi bl fun bm => zc 76 [(nth v0 1), bm, (U 1)] fun bn => zn (nth v0 0) fun bo => zf 8 bo fun bp => zl bp fun bq => (a434x8 v0 bq)
def a434x10 (v0 : List AV) : AC := zn (nth v0 0) fun bf => zf 2 bf fun bg => zf 1 bg fun bh => zl bh fun bi => zn (nth v0 0) fun bj => zf 8 bj fun bk => (a434x9 v0 bi bk)
def a434x11 (v0 : List AV) (ba : AV) : AC := zf 0 ba fun bb => zc 436 [bb] fun bc => .op (.extract 0 bc) fun bd => .op (.extract 1 bc) fun be => .ite be (a434x7 v0 bd) (a434x10 v0)
def a434x12 (v0 : List AV) (b6 : AV) : AC := zf 5 b6 fun b7 => zl b7 fun b8 => .op (.eq 382 true b8 Np) fun b9 => .ite b9 (zc 435 [(nth v0 0), (nth v0 1)] fun ba => (a434x0 v0)) (zn (nth v0 0) fun ba => (a434x11 v0 ba))
def a434x13 (v0 : List AV) (b2 : AV) : AC := .ite b2 (zr [(B true)]) (zn (nth v0 0) fun b3 => zf 10 b3 fun b4 => zs b4 (U 0) fun b5 => zn (nth v0 0) fun b6 => (a434x12 v0 b6))
def a434x14 (v0 : List AV) (v1 v6 : AV) : AC := zi v1 (B true) v6 fun v7 => zu v7 (.mv (nth v0 0)) fun v8 => zu v7 (.nilchk v8) fun v9 => zu v7 (.faddr 12 v9) fun b0 => zu v7 (.load 1 false b0) fun b1 => zi v7 (B true) b1 fun b2 => (a434x13 v0 b2)
def a434 : List AV → AC := fun v0 => .op (.eq 317 false (nth v0 0) Np) fun v1 => zu v1 (.mv (nth v0 0)) fun v2 => zu v1 (.nilchk v2) fun v3 => zu v1 (.faddr 11 v3) fun v4 => zu v1 (.load 1 false v4) fun v5 => zu v1 (.un .not v5) fun v6 => (a434x14 v0 v1 v6)
theorem e434 : denFn prog f434 [4] = a434 := by kernel_rfl
def a435x0 (v0 : List AV) (b8 bk : AV) : AC := .ite bk (zc 271 [(nth v0 0), (I 0)] fun bl => zm []) (zc 271 [(nth v0 0), b8] fun bl => zm [])
def a435x1 (v0 : List AV) (b8 bj : AV) : AC := .ite bj (zm []) (zb .eql b8 (I 15) fun bk => .bind (a435x0 v0 b8 bk) none (fun bl => zm []) (fun bl => []))
def a435x2 (v0 : List AV) (b8 bc bh : AV) : AC := zs bh bc fun bi => .bind (zb .eql b8 (I 0) fun bj => .bind (a435x1 v0 b8 bj) none (fun bk => zm []) (fun bk => [])) (some 0) (fun bj => zr []) (fun bj => [])
def a435x3 (v0 : List AV) (b8 bb bc : AV) : AC := zn (nth v0 0) fun bd => zf 5 bd fun be => zs be Np fun bf => .chk (.load 1 false bb) bc (zn (nth v0 0) fun bg => zf 6 bg fun bh => (a435x2 v0 b8 bc bh))
def a435x4 (v0 : List AV) (b6 : AV) : AC := .op (.extract 0 b6) fun b7 => .op (.extract 1 b6) fun b8 => .op (.alloc [(U 0), (I 0)]) fun b9 => .op (.store 2 b9 b7) fun ba => zf 0 b9 fun bb => zl bb fun bc => (a435x3 v0 b8 bb bc)
def a435x5 (v0 : List AV) (b2 : AV) : AC := .ite b2 (zr []) (zn (nth v0 0) fun b3 => zf 5 b3 fun b4 => zl b4 fun b5 => zc 270 [b5] fun b6 => (a435x4 v0 b6))
def a435x6 (v0 : List AV) (v4 v6 : AV) : AC := zl v6 fun v7 => zc 439 [v7] fun v8 => zn (nth v0 0) fun v9 => zf 10 v9 fun b0 => zs b0 v8 fun b1 => .op (.un .not v4) fun b2 => (a435x5 v0 b2)
def a435 : List AV → AC := fun v0 => zn (nth v0 0) fun v1 => zf 5 v1 fun v2 => zl v2 fun v3 => zc 438 [v3, (nth v0 1)] fun v4 => zn (nth v0 0) fun v5 => zf 5 v5 fun v6 => (a435x6 v0 v4 v6)
theorem e435 : denFn prog f435 [] = a435 := by kernel_rfl
def a436x0 (v0 : List AV) (b5 b6 : AV) : AC := zf 1 b6 fun b7 => zs b7 b5 fun b8 => zn (nth v0 0) fun b9 => zf 0 b9 fun ba => zl ba fun bb => zb .sub bb (I 1) fun bc => zr [bc, (B true)]
def a436x1 (v0 : List AV) (v8 b0 : AV) : AC := zs b0 v8 fun b1 => zn (nth v0 0) fun b2 => zf 1 b2 fun b3 => zl b3 fun b4 => zb .sub b4 (I 1) fun b5 => zn (nth v0 0) fun b6 => (a436x0 v0 b5 b6)
def a436x2 (v0 : List AV) : AC := zn (nth v0 0) fun v5 => zf 0 v5 fun v6 => zl v6 fun v7 => zb .add v7 (I 1) fun v8 => zn (nth v0 0) fun v9 => zf 0 v9 fun b0 => (a436x1 v0 v8 b0)
def a436 : List AV → AC := fun v0 => zn (nth v0 0) fun v1 => zf 1 v1 fun v2 => zl v2 fun v3 => zb .eql v3 (I 0) fun v4 => .ite v4 (zr [(I 0), (B false)]) (a436x2 v0)
theorem e436 : denFn prog f436 [2, 3] = a436 := by kernel_rfl
def a437x0 (v0 : List AV) (v1 v2 v6 : AV) : AC := zu v2 (.mv (nth v0 1)) fun v7 => zu v2 (.bin .leq v6 v7) fun v8 => zi v2 (B true) v8 fun v9 => .ite v9 (zr [(I (-1)), (B false)]) (zr [v1, (B true)])
def a437 : List AV → AC := fun v0 => zc 440 [(nth v0 0), (zF 441)] fun v1 => zb .lss v1 (I 0) fun v2 => zu v2 (.mv (nth v0 0)) fun v3 => zu v2 (.mv v1) fun v4 => zu v2 (.saddr 1 v3 v4) fun v5 => zu v2 (.load 1 false v5) fun v6 => (a437x0 v0 v1 v2 v6)
theorem e437 : denFn prog f437 [4, 5] = a437 := by kernel_rfl
def a438x0 (v1 v6 : AV) : AC := zi v1 (B true) v6 fun v7 => zr [v7]
def a438 : List AV → AC := fun v0 => .op (.eq 382 false (nth v0 0) Np) fun v1 => zu v1 (.mv (nth v0 0)) fun v2 => zu v1 (.nilchk v2) fun v3 => zu v1 (.faddr 0 v3) fun v4 => zu v1 (.mv (nth v0 1)) fun v5 => .gcall v1 false (zF 432) [v4, v5] fun v6 => (a438x0 v1 v6)
theorem e438 : denFn prog f438 [] = a438 := by kernel_rfl
def a439x0 (v4 : AV) : AC := zl v4 fun v5 => zr [v5]
def a439 : List AV → AC := fun v0 => .op (.eq 382 false (nth v0 0) Np) fun v1 => .ite v1 (zr [(U 0)]) (zn (nth v0 0) fun v2 => zf 0 v2 fun v3 => zf 17 v3 fun v4 => (a439x0 v4))
theorem e439 : denFn prog f439 [2] = a439 := by kernel_rfl
def a440x0 (v2 : List AV) (b5 : AV) : AC := .bind (.ite b5 (zm [(nth v2 0)]) (zm [(nth v2 1)])) none (fun b6 => zm [(nth b6 0)]) (fun b6 => [(nth b6 0)])
def a440x1 (v2 : List AV) (v6 v7 v8 v9 : AV) : AC := zu v6 (.mv (nth v2 1)) fun b0 => zu v6 (.saddr 1 v9 b0) fun b1 => zu v6 (.load 1 false b1) fun b2 => .gcall v6 false v7 [v8, b2] fun b3 => zu v6 (.bin .gtr b3 (I 0)) fun b4 => zi v6 (B true) b4 fun b5 => (a440x0 v2 b5)
def a440x2 (v0 v2 : List AV) : AC := .op (.saddr 1 (nth v0 0) (nth v2 0)) fun v4 => zl v4 fun v5 => zb .lss (nth v2 1) (I 0) fun v6 => zu v6 (.mv (nth v0 1)) fun v7 => zu v6 (.mv v5) fun v8 => zu v6 (.mv (nth v0 0)) fun v9 => (a440x1 v2 v6 v7 v8 v9)
def a440x3 (v2 v4 : List AV) : AC := zb .add (nth v2 0) (I 1) fun v5 => zm [v5, (nth v4 0)]
def a440x4 (v0 : List AV) (v1 : AV) (v2 : List AV) : AC := zb .lss (nth v2 0) v1 fun v3 => .ite v3 (.bind (a440x2 v0 v2) (some 1) (fun v4 => (a440x3 v2 v4)) (fun v4 => [(nth v2 0), (nth v4 0)])) (.ret (.exit 0) [(nth v2 0), (nth v2 1)])
def a440 : List AV → AC := fun v0 => .op (.len false (nth v0 0)) fun v1 => .bind (.loop [(I 0), (I (-1))] (fun v2 => (a440x4 v0 v1 v2)) (fun v2 => [(nth v2 0), (nth v2 1)])) (some 0) (fun v2 => zr [(nth v2 1)]) (fun v2 => [(I 0)])
theorem e440 : denFn prog f440 [5, 10] = a440 := by kernel_rfl
def a441x0 (v0 : List AV) : AC := zb .lss (nth v0 0) (nth v0 1) fun v3 => .ite v3 (zr [(I (-1))]) (zb .gtr (nth v0 0) (nth v0 1) fun v4 => .ite v4 (zr [(I 1)]) (zr [(I 0)]))
def a441 : List AV → AC := fun v0 => zc 442 [(nth v0 0)] fun v1 => zc 442 [(nth v0 1)] fun v2 => .ite v1 (.ite v2 (zr [(I 0)]) (zr [(I (-1))])) (.ite v2 (zr [(I 1)]) (a441x0 v0))
theorem e441 : denFn prog f441 [4] = a441 := by kernel_rfl
def a442 : List AV → AC := fun v0 => zb .neq (nth v0 0) (nth v0 0) fun v1 => zr [v1]
theorem e442 : denFn prog f442 [] = a442 := by kernel_rfl
def a443x0 (v4 : AV) : AC := zl v4 fun v5 => zr [v5]
def a443 : List AV → AC := fun v0 => .op (.eq 321 false (nth v0 0) Np) fun v1 => .ite v1 (zr [(U 0)]) (zn (nth v0 0) fun v2 => zf 0 v2 fun v3 => zf 17 v3 fun v4 => (a443x0 v4))
theorem e443 : denFn prog f443 [2] = a443 := by kernel_rfl
def a444x0 (v1 v6 : AV) : AC := zi v1 (B true) v6 fun v7 => zr [v7]
def a444 : List AV → AC := fun v0 => .op (.eq 321 false (nth v0 0) Np) fun v1 => zu v1 (.mv (nth v0 0)) fun v2 => zu v1 (.nilchk v2) fun v3 => zu v1 (.faddr 0 v3) fun v4 => zu v1 (.mv (nth v0 1)) fun v5 => .gcall v1 false (zF 432) [v4, v5] fun v6 => (a444x0 v1 v6)
theorem e444 : denFn prog f444 [] = a444 := by kernel_rfl
def a445x0 (v0 : List AV) (v8 : AV) : AC := zn (nth v0 0) fun v9 => zf 3 v9 fun b0 => zs b0 v8 fun b1 => zn (nth v0 0) fun b2 => zf 4 b2 fun b3 => zs b3 (B true) fun b4 => zm []
def a445x1 (v0 : List AV) (v4 : AV) : AC := .ite v4 (zn (nth v0 0) fun v5 => zf 0 v5 fun v6 => zl v6 fun v7 => .call v7 [] fun v8 => (a445x0 v0 v8)) (zm [])
def a445x2 (b6 b9 : AV) : AC := .call b6 [b9] fun ba => zm [ba]
def a445x3 (v0 : List AV) : AC := zn (nth v0 0) fun b4 => zf 1 b4 fun b5 => zl b5 fun b6 => zn (nth v0 0) fun b7 => zf 3 b7 fun b8 => zl b8 fun b9 => (a445x2 b6 b9)
def a445x4 (bd be : AV) : AC := zf 3 be fun bf => zl bf fun bg => .call bd [bg] fun bh => zm []
def a445x5 (v0 : List AV) (ba : AV) : AC := .ite ba (zn (nth v0 0) fun bb => zf 2 bb fun bc => zl bc fun bd => zn (nth v0 0) fun be => (a445x4 bd be)) (zm [])
def a445x6 (v0 : List AV) (v9 : AV) (b4 : List AV) (b5 : AV) : AC := zt v9 (.nilchk b5) fun b6 => zt v9 (.faddr 2 b6) fun b7 => zt v9 (.load 1 false b7) fun b8 => zt v9 (.eq 399 true b8 Nf) fun b9 => zi v9 b9 (B false) fun ba => .bind (a445x5 v0 ba) none (fun bb => zr [v9, (nth b4 0)]) (fun bb => [(B false), (U 0)])
def a445x7 (v0 : List AV) (v9 b1 : AV) : AC := zl b1 fun b2 => .op (.eq 398 true b2 Nf) fun b3 => .bind (.ite b3 (a445x3 v0) (zm [(U 0)])) none (fun b4 => zt v9 (.mv (nth v0 0)) fun b5 => (a445x6 v0 v9 b4 b5)) (fun b4 => [(B false), (U 0)])
def a445x8 (v0 : List AV) : AC := zn (nth v0 0) fun v6 => zf 3 v6 fun v7 => zl v7 fun v8 => .call (.fn (.method "Step") [] []) [(.iface 395 v8), (nth v0 1)] fun v9 => zn (nth v0 0) fun b0 => zf 1 b0 fun b1 => (a445x7 v0 v9 b1)
def a445 : List AV → AC := fun v0 => zn (nth v0 0) fun v1 => zf 4 v1 fun v2 => zl v2 fun v3 => .op (.un .not v3) fun v4 => .bind (a445x1 v0 v4) none (fun v5 => (a445x8 v0)) (fun v5 => [(B false), (U 0)])
theorem e445 : denFn prog f445 [7] = a445 := by kernel_rfl
def a446x0 (b1 b6 : AV) : AC := .ite b6 (zm [b6]) (zb .eql b1 (I 6) fun b7 => zm [b7])
def a446x1 (b1 b5 : AV) : AC := .ite b5 (zm [b5]) (zb .eql b1 (I 5) fun b6 => .bind (a446x0 b1 b6) none (fun b7 => zm [(nth b7 0)]) (fun b7 => [(nth b7 0)]))
def a446x2 (b6 : List AV) (ba : AV) : AC := .ite ba (.ret (.exit 10) [(nth b6 0)]) (.ret (.exit 11) [(nth b6 0)])
def a446x3 (b1 : AV) (b6 : List AV) (b8 : AV) : AC := .ite b8 (.ret (.exit 8) [(nth b6 0)]) (zb .eql b1 (I 9) fun b9 => .ite b9 (.ret (.exit 9) [(nth b6 0)]) (zb .eql b1 (I 91) fun ba => (a446x2 b6 ba)))
def a446x4 (b1 : AV) (b6 : List AV) : AC := .ite (nth b6 0) (.ret (.exit 6) [(nth b6 0)]) (zb .eql b1 (I 7) fun b7 => .ite b7 (.ret (.exit 7) [(nth b6 0)]) (zb .eql b1 (I 8) fun b8 => (a446x3 b1 b6 b8)))
def a446x5 (v7 : List AV) (b1 : AV) : AC := zb .eql b1 (I 3) fun b4 => .ite b4 (.ret (.exit 5) [(nth v7 0)]) (zb .eql b1 (I 4) fun b5 => .bind (a446x1 b1 b5) none (fun b6 => (a446x4 b1 b6)) (fun b6 => [(nth b6 0)]))
def a446x6 (v7 : List AV) (b1 : AV) : AC := zb .eql b1 (I 1) fun b2 => .ite b2 (.ret (.exit 3) [(nth v7 0)]) (zb .eql b1 (I 2) fun b3 => .ite b3 (.ret (.exit 4) [(nth v7 0)]) (a446x5 v7 b1))
def a446x7 (v7 : List AV) (b1 : AV) : AC := .bind (.bind (a446x6 v7 b1) (some 3) (fun b2 => zm [(nth b2 0)]) (fun b2 => [(nth b2 0)])) (some 4) (fun b2 => zm [(nth b2 0)]) (fun b2 => [(nth b2 0)])
def a446x8 (v0 b2 : List AV) : AC := zn (nth v0 0) fun b3 => zf 0 b3 fun b4 => zc 449 [b4, (nth v0 1)] fun b5 => .ret (.exit 0) [(nth b2 0)]
def a446x9 (v0 v7 : List AV) (b1 : AV) : AC := .bind (.bind (a446x7 v7 b1) (some 5) (fun b2 => (a446x8 v0 b2)) (fun b2 => [(nth b2 0)])) (some 6) (fun b2 => zc 450 [(nth v0 0), (nth v0 1)] fun b3 => .ret (.exit 0) [(nth b2 0)]) (fun b2 => [(nth b2 0)])
def a446x10 (v0 : List AV) (bi : AV) : AC := .ite bi (zn (nth v0 0) fun bj => zf 0 bj fun bk => zf 17 bk fun bl => zs bl (I 3) fun bm => zm []) (zm [])
def a446x11 (v0 b2 : List AV) (be : AV) : AC := zf 0 be fun bf => zf 20 bf fun bg => zl bg fun bh => zc 452 [bh] fun bi => .bind (a446x10 v0 bi) none (fun bj => .ret (.exit 0) [(nth b2 0)]) (fun bj => [(nth b2 0)])
def a446x12 (v0 b2 : List AV) (b5 b8 : AV) : AC := zs b8 b5 fun b9 => zn (nth v0 0) fun ba => zf 0 ba fun bb => zf 17 bb fun bc => zs bc (I 8) fun bd => zn (nth v0 0) fun be => (a446x11 v0 b2 be)
def a446x13 (v0 b2 : List AV) : AC := zn (nth v0 0) fun b3 => zf 0 b3 fun b4 => zc 451 [b4, (nth v0 1), (I 4)] fun b5 => zn (nth v0 0) fun b6 => zf 0 b6 fun b7 => zf 20 b7 fun b8 => (a446x12 v0 b2 b5 b8)
def a446x14 (c4 : AV) : AC := zf 0 c4 fun c5 => zf 17 c5 fun c6 => zs c6 (I 9) fun c7 => zm []
def a446x15 (v0 : List AV) : AC := zn (nth v0 0) fun bz => zf 0 bz fun c0 => zf 13 c0 fun c1 => zf 1 c1 fun c2 => zs c2 (B true) fun c3 => zn (nth v0 0) fun c4 => (a446x14 c4)
def a446x16 (v0 b2 : List AV) (bq bv bw : AV) : AC := zc 285 [(nth v0 1), bv, bq, bw] fun bx => .bind (.ite bx (a446x15 v0) (zm [])) none (fun bz => .ret (.exit 0) [(nth b2 0)]) (fun bz => [(nth b2 0)])
def a446x17 (v0 b2 : List AV) (bi bm bp bq bt : AV) : AC := zl bt fun bu => zc 88 [bi, bm, (I 0)] fun bv => .chk (.load 1 false bp) bq (.chk (.load 1 false bt) bu (zc 453 [bu, (B true)] fun bw => .chk (.load 1 false bp) bq (a446x16 v0 b2 bq bv bw)))
def a446x18 (v0 b2 : List AV) (bi bm bn : AV) : AC := zf 0 bn fun bo => zf 20 bo fun bp => zl bp fun bq => zn (nth v0 0) fun br => zf 0 br fun bs => zf 20 bs fun bt => (a446x17 v0 b2 bi bm bp bq bt)
def a446x19 (v0 b2 : List AV) (bh : AV) : AC := .op (.load 13 true bh) fun bi => zn (nth v0 0) fun bj => zf 0 bj fun bk => zf 19 bk fun bl => zl bl fun bm => zn (nth v0 0) fun bn => (a446x18 v0 b2 bi bm bn)
def a446x20 (v0 b2 : List AV) (bb : AV) : AC := zf 0 bb fun bc => zf 17 bc fun bd => zs bd (I 7) fun be => zn (nth v0 0) fun bf => zf 0 bf fun bg => zf 0 bg fun bh => (a446x19 v0 b2 bh)
def a446x21 (v0 b2 : List AV) (b5 : AV) : AC := zl b5 fun b6 => zn (nth v0 0) fun b7 => zf 0 b7 fun b8 => zf 23 b8 fun b9 => zs b9 b6 fun ba => zn (nth v0 0) fun bb => (a446x20 v0 b2 bb)
def a446x22 (v0 v7 : List AV) (b1 : AV) : AC := .bind (.bind (a446x9 v0 v7 b1) (some 7) (fun b2 => (a446x13 v0 b2)) (fun b2 => [(nth b2 0)])) (some 8) (fun b2 => zn (nth v0 0) fun b3 => zf 0 b3 fun b4 => zf 18 b4 fun b5 => (a446x21 v0 b2 b5)) (fun b2 => [(nth b2 0)])
def a446x23 (v0 b2 : List AV) (b5 b8 : AV) : AC := zf 0 b8 fun b9 => zs b9 b5 fun ba => zn (nth v0 0) fun bb => zf 0 bb fun bc => zf 17 bc fun bd => zs bd (I 91) fun be => .ret (.exit 0) [(nth b2 0)]
def a446x24 (v0 b2 : List AV) : AC := zn (nth v0 0) fun b3 => zf 0 b3 fun b4 => zc 451 [b4, (nth v0 1), (I 0)] fun b5 => zn (nth v0 0) fun b6 => zf 0 b6 fun b7 => zf 21 b7 fun b8 => (a446x23 v0 b2 b5 b8)
def a446x25 (b2 : List AV) (bn : AV) : AC := zs bn (I 10) fun bo => .ret (.exit 0) [(nth b2 0)]
def a446x26 (v0 b2 : List AV) (bf bh : AV) : AC := zf 13 bh fun bi => zf 2 bi fun bj => zs bj bf fun bk => zn (nth v0 0) fun bl => zf 0 bl fun bm => zf 17 bm fun bn => (a446x25 b2 bn)
def a446x27 (v0 b2 : List AV) (b9 bb : AV) : AC := zf 21 bb fun bc => zf 0 bc fun bd => zl bd fun be => zc 371 [b9, be] fun bf => zn (nth v0 0) fun bg => zf 0 bg fun bh => (a446x26 v0 b2 bf bh)
def a446x28 (v0 b2 : List AV) : AC := zn (nth v0 0) fun b6 => zf 0 b6 fun b7 => zf 0 b7 fun b8 => .op (.load 13 true b8) fun b9 => zn (nth v0 0) fun ba => zf 0 ba fun bb => (a446x27 v0 b2 b9 bb)
def a446x29 (v0 v7 : List AV) (b1 : AV) : AC := .bind (.bind (a446x22 v0 v7 b1) (some 9) (fun b2 => (a446x24 v0 b2)) (fun b2 => [(nth b2 0)])) (some 10) (fun b2 => zn (nth v0 0) fun b3 => zf 0 b3 fun b4 => zc 454 [b4, (nth v0 1)] fun b5 => (a446x28 v0 b2)) (fun b2 => [(nth b2 0)])
def a446x30 (v0 b2 : List AV) : AC := zc 455 [(nth v0 0), (nth v0 1)] fun b3 => .ret (.exit 0) [(nth b2 0)]
def a446x31 (v0 v7 : List AV) (b0 : AV) : AC := zl b0 fun b1 => .bind (.bind (a446x29 v0 v7 b1) (some 11) (fun b2 => (a446x30 v0 b2)) (fun b2 => [(nth b2 0)])) (some 2) (fun b2 => zm [(nth b2 0)]) (fun b2 => [(nth b2 0)])
def a446x32 (v0 v7 : List AV) : AC := .bind (zn (nth v0 0) fun v8 => zf 0 v8 fun v9 => zf 17 v9 fun b0 => (a446x31 v0 v7 b0)) (some 1) (fun v8 => zm [(nth v8 0)]) (fun v8 => [(nth v8 0)])
def a446x33 (v8 : AV) : AC := zf 0 v8 fun v9 => zf 17 v9 fun b0 => zl b0 fun b1 => zb .eql b1 (I 99) fun b2 => zr [b2]
def a446x34 (v0 : List AV) (v6 : AV) : AC := .ite v6 (zr [(B true)]) (.bind (.loop [.no] (fun v7 => (a446x32 v0 v7)) (fun v7 => [(nth v7 0)])) (some 0) (fun v7 => zn (nth v0 0) fun v8 => (a446x33 v8)) (fun v7 => [(B false)]))
def a446 : List AV → AC := fun v0 => .op (.eq 395 false (nth v0 0) Np) fun v1 => zu v1 (.mv (nth v0 0)) fun v2 => zu v1 (.nilchk v2) fun v3 => zu v1 (.faddr 0 v3) fun v4 => .gcall v1 false (zF 448) [v4] fun v5 => zi v1 (B true) v5 fun v6 => (a446x34 v0 v6)
theorem e446 : denFn prog f446 [4, 24] = a446 := by kernel_rfl
def a447x0 (v0 : List AV) (bb : AV) : AC := .ite bb (zn (nth v0 0) fun bc => zf 0 bc fun bd => zf 17 bd fun be => zs be (I 7) fun bf => zm []) (zm [])
def a447x1 (v0 : List AV) (b8 : AV) : AC := zf 0 b8 fun b9 => zl b9 fun ba => zb .lss ba (I 1) fun bb => .bind (a447x0 v0 bb) none (fun bc => zr []) (fun bc => [])
def a447x2 (v0 : List AV) (b2 : AV) : AC := zf 0 b2 fun b3 => zf 17 b3 fun b4 => zs b4 (I 5) fun b5 => zn (nth v0 0) fun b6 => zf 0 b6 fun b7 => zf 13 b7 fun b8 => (a447x1 v0 b8)
def a447x3 (v0 : List AV) (v6 : AV) : AC := zn (nth v0 0) fun v7 => zf 0 v7 fun v8 => zf 13 v8 fun v9 => zf 0 v9 fun b0 => zs b0 v6 fun b1 => zn (nth v0 0) fun b2 => (a447x2 v0 b2)
def a447 : List AV → AC := fun v0 => zn (nth v0 0) fun v1 => zf 0 v1 fun v2 => zf 13 v2 fun v3 => zf 0 v3 fun v4 => zl v4 fun v5 => zb .sub v5 (I 1) fun v6 => (a447x3 v0 v6)
theorem e447 : denFn prog f447 [] = a447 := by kernel_rfl
def a448x0 (v4 v6 : AV) : AC := zu v4 (.faddr 17 v6) fun v7 => zu v4 (.load 1 false v7) fun v8 => zu v4 (.bin .eql v8 (I 99)) fun v9 => zi v4 (B true) v9 fun b0 => zr [b0]
def a448 : List AV → AC := fun v0 => zn (nth v0 0) fun v1 => zf 24 v1 fun v2 => zl v2 fun v3 => .op (.un .not v3) fun v4 => zu v4 (.mv (nth v0 0)) fun v5 => zu v4 (.nilchk v5) fun v6 => (a448x0 v4 v6)
theorem e448 : denFn prog f448 [] = a448 := by kernel_rfl
def a449x0 (c8 : AV) : AC := zf 25 c8 fun c9 => zs c9 (I 15) fun ca => zm []
def a449x1 (v0 : List AV) (c4 : AV) : AC := .ite c4 (zn (nth v0 0) fun c5 => zf 17 c5 fun c6 => zs c6 (I 99) fun c7 => zn (nth v0 0) fun c8 => (a449x0 c8)) (zm [])
def a449x2 (v0 : List AV) (bp bt c1 : AV) : AC := zu bp (.load 1 false c1) fun c2 => zu bp (.bin .geq bt c2) fun c3 => zi bp (B true) c3 fun c4 => .bind (a449x1 v0 c4) none (fun c5 => zm []) (fun c5 => [])
def a449x3 (v0 : List AV) (bp bt bu : AV) : AC := zu bp (.nilchk bu) fun bv => zu bp (.faddr 0 bv) fun bw => zu bp (.faddr 3 bw) fun bx => zu bp (.faddr 0 bx) fun bz => zu bp (.faddr 0 bz) fun c0 => zu bp (.faddr 2 c0) fun c1 => (a449x2 v0 bp bt c1)
def a449x4 (v0 : List AV) (bo : AV) : AC := zb .lss bo (I 0) fun bp => zu bp (.mv (nth v0 0)) fun bq => zu bp (.nilchk bq) fun br => zu bp (.faddr 19 br) fun bs => zu bp (.load 1 false bs) fun bt => zu bp (.mv (nth v0 0)) fun bu => (a449x3 v0 bp bt bu)
def a449x5 (v0 : List AV) : AC := zn (nth v0 0) fun bj => zf 17 bj fun bk => zs bk (I 2) fun bl => zn (nth v0 0) fun bm => zf 19 bm fun bn => zl bn fun bo => (a449x4 v0 bo)
def a449x6 (v0 : List AV) (ba bc : AV) : AC := .op (.store 2 bc ba) fun bd => zf 0 bc fun be => zl be fun bf => zn (nth v0 0) fun bg => zf 19 bg fun bh => zs bh bf fun bi => (a449x5 v0)
def a449x7 (v0 : List AV) (b6 : AV) : AC := zf 18 b6 fun b7 => zl b7 fun b8 => zc 236 [b8] fun b9 => .op (.extract 0 b9) fun ba => .op (.extract 1 b9) fun bb => .op (.alloc [(I 0), (I 0)]) fun bc => (a449x6 v0 ba bc)
def a449x8 (v0 : List AV) (b0 : AV) : AC := zc 88 [b0, (I (-1)), (I 0)] fun b1 => zc 132 [(nth v0 1), b1] fun b2 => zn (nth v0 0) fun b3 => zf 18 b3 fun b4 => zs b4 b2 fun b5 => zn (nth v0 0) fun b6 => (a449x7 v0 b6)
def a449x9 (v0 : List AV) : AC := zn (nth v0 0) fun v5 => zf 23 v5 fun v6 => zs v6 (U 0) fun v7 => zn (nth v0 0) fun v8 => zf 0 v8 fun v9 => .op (.load 13 true v9) fun b0 => (a449x8 v0 b0)
def a449x10 (v0 : List AV) (b6 : AV) : AC := .ite b6 (zn (nth v0 0) fun b7 => zf 17 b7 fun b8 => zs b8 (I 3) fun b9 => zm []) (zm [])
def a449x11 (v0 : List AV) (b1 : AV) : AC := zs b1 (I 4) fun b2 => zn (nth v0 0) fun b3 => zf 20 b3 fun b4 => zl b4 fun b5 => zc 452 [b5] fun b6 => .bind (a449x10 v0 b6) none (fun b7 => zm []) (fun b7 => [])
def a449x12 (v0 : List AV) : AC := zc 451 [(nth v0 0), (nth v0 1), (I 4)] fun v6 => zn (nth v0 0) fun v7 => zf 20 v7 fun v8 => zs v8 v6 fun v9 => zn (nth v0 0) fun b0 => zf 17 b0 fun b1 => (a449x11 v0 b1)
def a449x13 (v0 : List AV) : AC := zn (nth v0 0) fun bc => zf 17 bc fun bd => zs bd (I 1) fun be => zm []
def a449x14 (v0 : List AV) (b2 b4 b5 b7 b8 : AV) : AC := zc 88 [b2, (I (-1)), (I 0)] fun b9 => .chk (.load 1 false b4) b5 (.chk (.load 1 false b7) b8 (zc 453 [b8, (B false)] fun ba => .chk (.load 1 false b4) b5 (zc 285 [(nth v0 1), b9, b5, ba] fun bb => (a449x13 v0))))
def a449x15 (v0 : List AV) (b2 : AV) : AC := zn (nth v0 0) fun b3 => zf 18 b3 fun b4 => zl b4 fun b5 => zn (nth v0 0) fun b6 => zf 20 b6 fun b7 => zl b7 fun b8 => (a449x14 v0 b2 b4 b5 b7 b8)
def a449x16 (v0 : List AV) : AC := zn (nth v0 0) fun v7 => zf 23 v7 fun v8 => zs v8 (U 0) fun v9 => zn (nth v0 0) fun b0 => zf 0 b0 fun b1 => .op (.load 13 true b1) fun b2 => (a449x15 v0 b2)
def a449x17 (v0 : List AV) (v3 : AV) : AC := zb .eql v3 (I 3) fun v6 => .bind (.ite v6 (a449x16 v0) (zm [])) none (fun v7 => zm []) (fun v7 => [])
def a449x18 (v0 : List AV) (v3 : AV) : AC := zb .eql v3 (I 2) fun v5 => .bind (.ite v5 (a449x12 v0) (a449x17 v0 v3)) none (fun v6 => zm []) (fun v6 => [])
def a449x19 (v0 : List AV) (v3 : AV) : AC := zb .eql v3 (I 1) fun v4 => .bind (.ite v4 (a449x9 v0) (a449x18 v0 v3)) none (fun v5 => zm []) (fun v5 => [])
def a449 : List AV → AC := fun v0 => zn (nth v0 0) fun v1 => zf 17 v1 fun v2 => zl v2 fun v3 => .bind (a449x19 v0 v3) (some 0) (fun v4 => zr []) (fun v4 => [])
theorem e449 : denFn prog f449 [] = a449 := by kernel_rfl
def a450x0 (v0 : List AV) (b8 : AV) : AC := .op (.conv .i64 b8) fun bg => zn (nth v0 0) fun bh => zf 0 bh fun bi => zf 13 bi fun bj => zf 0 bj fun bk => zs bk bg fun bl => zm []
def a450x1 (v0 : List AV) (b8 bd : AV) : AC := .op (.conv .u64 bd) fun be => zb .lss b8 be fun bf => .bind (.ite bf (a450x0 v0 b8) (zm [])) none (fun bg => zc 447 [(nth v0 0)] fun bh => zm []) (fun bg => [])
def a450x2 (v0 : List AV) (b7 : AV) : AC := zc 451 [b7, (nth v0 1), (I 2)] fun b8 => zn (nth v0 0) fun b9 => zf 0 b9 fun ba => zf 0 ba fun bb => zf 2 bb fun bc => zl bc fun bd => (a450x1 v0 b8 bd)
def a450x3 (v0 : List AV) (b0 b1 : AV) : AC := zf 0 b1 fun b2 => zf 13 b2 fun b3 => zf 0 b3 fun b4 => zs b4 b0 fun b5 => zn (nth v0 0) fun b6 => zf 0 b6 fun b7 => (a450x2 v0 b7)
def a450x4 (v0 : List AV) : AC := zn (nth v0 0) fun v6 => zf 0 v6 fun v7 => zf 0 v7 fun v8 => zf 2 v8 fun v9 => zl v9 fun b0 => zn (nth v0 0) fun b1 => (a450x3 v0 b0 b1)
def a450x5 (v0 : List AV) (bi : AV) : AC := .ite bi (zc 447 [(nth v0 0)] fun bj => zm []) (zm [])
def a450x6 (v0 : List AV) (be : AV) : AC := zf 0 be fun bf => zf 20 bf fun bg => zl bg fun bh => zc 452 [bh] fun bi => .bind (a450x5 v0 bi) none (fun bj => zm []) (fun bj => [])
def a450x7 (v0 : List AV) (b5 b8 : AV) : AC := zs b8 b5 fun b9 => zn (nth v0 0) fun ba => zf 0 ba fun bb => zf 17 bb fun bc => zs bc (I 6) fun bd => zn (nth v0 0) fun be => (a450x6 v0 be)
def a450x8 (v0 : List AV) (v8 b2 : AV) : AC := zl b2 fun b3 => zb .add (I 4) b3 fun b4 => zc 451 [v8, (nth v0 1), b4] fun b5 => zn (nth v0 0) fun b6 => zf 0 b6 fun b7 => zf 20 b7 fun b8 => (a450x7 v0 b5 b8)
def a450x9 (v0 : List AV) : AC := zn (nth v0 0) fun v7 => zf 0 v7 fun v8 => zn (nth v0 0) fun v9 => zf 0 v9 fun b0 => zf 13 b0 fun b1 => zf 0 b1 fun b2 => (a450x8 v0 v8 b2)
def a450x10 (v0 : List AV) (bx : AV) : AC := .ite bx (zc 447 [(nth v0 0)] fun bz => zm []) (zm [])
def a450x11 (v0 : List AV) (bp bq bu bv : AV) : AC := zc 453 [bu, (B true)] fun bw => .chk (.load 1 false bp) bq (zc 285 [(nth v0 1), bv, bq, bw] fun bx => .bind (a450x10 v0 bx) none (fun bz => zm []) (fun bz => []))
def a450x12 (v0 : List AV) (bd bh bm bp bq br : AV) : AC := zf 0 br fun bs => zf 20 bs fun bt => zl bt fun bu => zc 88 [bd, bh, bm] fun bv => .chk (.load 1 false bp) bq (.chk (.load 1 false bt) bu (a450x11 v0 bp bq bu bv))
def a450x13 (v0 : List AV) (bd bh bl : AV) : AC := zl bl fun bm => zn (nth v0 0) fun bn => zf 0 bn fun bo => zf 20 bo fun bp => zl bp fun bq => zn (nth v0 0) fun br => (a450x12 v0 bd bh bm bp bq br)
def a450x14 (v0 : List AV) (bd bf : AV) : AC := zf 19 bf fun bg => zl bg fun bh => zn (nth v0 0) fun bi => zf 0 bi fun bj => zf 13 bj fun bk => zf 0 bk fun bl => (a450x13 v0 bd bh bl)
def a450x15 (v0 : List AV) : AC := zn (nth v0 0) fun ba => zf 0 ba fun bb => zf 0 bb fun bc => .op (.load 13 true bc) fun bd => zn (nth v0 0) fun be => zf 0 be fun bf => (a450x14 v0 bd bf)
def a450x16 (v0 : List AV) (b1 b3 : AV) : AC := zf 23 b3 fun b4 => zs b4 b1 fun b5 => zn (nth v0 0) fun b6 => zf 0 b6 fun b7 => zf 17 b7 fun b8 => zs b8 (I 5) fun b9 => (a450x15 v0)
def a450x17 (v0 : List AV) : AC := zn (nth v0 0) fun v8 => zf 0 v8 fun v9 => zf 18 v9 fun b0 => zl b0 fun b1 => zn (nth v0 0) fun b2 => zf 0 b2 fun b3 => (a450x16 v0 b1 b3)
def a450x18 (v0 : List AV) (v4 : AV) : AC := zb .eql v4 (I 6) fun v7 => .bind (.ite v7 (a450x17 v0) (zm [])) none (fun v8 => zm []) (fun v8 => [])
def a450x19 (v0 : List AV) (v4 : AV) : AC := zb .eql v4 (I 5) fun v6 => .bind (.ite v6 (a450x9 v0) (a450x18 v0 v4)) none (fun v7 => zm []) (fun v7 => [])
def a450x20 (v0 : List AV) (v4 : AV) : AC := zb .eql v4 (I 4) fun v5 => .bind (.ite v5 (a450x4 v0) (a450x19 v0 v4)) none (fun v6 => zm []) (fun v6 => [])
def a450 : List AV → AC := fun v0 => zn (nth v0 0) fun v1 => zf 0 v1 fun v2 => zf 17 v2 fun v3 => zl v3 fun v4 => .bind (a450x20 v0 v4) (some 0) (fun v5 => zr []) (fun v5 => [])
theorem e450 : denFn prog f450 [] = a450 := by kernel_rfl
def a451x0 (v0 : List AV) (v9 b2 : AV) : AC := zc 29 [v9, b2, (nth v0 2)] fun b3 => zc 132 [(nth v0 1), b3] fun b4 => zr [b4]
def a451x1 (v0 : List AV) : AC := zn (nth v0 0) fun v7 => zf 0 v7 fun v8 => .op (.load 13 true v8) fun v9 => zn (nth v0 0) fun b0 => zf 19 b0 fun b1 => zl b1 fun b2 => (a451x0 v0 v9 b2)
def a451 : List AV → AC := fun v0 => zn (nth v0 0) fun v1 => zf 18 v1 fun v2 => zl v2 fun v3 => zn (nth v0 0) fun v4 => zf 23 v4 fun v5 => zs v5 v3 fun v6 => (a451x1 v0)
theorem e451 : denFn prog f451 [] = a451 := by kernel_rfl
def a452 : List AV → AC := fun v0 => zc 86 [(nth v0 0)] fun v1 => zr [v1]
theorem e452 : denFn prog f452 [] = a452 := by kernel_rfl
def a453 : List AV → AC := fun v0 => zc 370 [(nth v0 0), (nth v0 1)] fun v1 => zr [v1]
theorem e453 : denFn prog f453 [] = a453 := by kernel_rfl
def a454x0 (v3 v6 : AV) : AC := zs v6 v3 fun v7 => zr []
def a454 : List AV → AC := fun v0 => zc 451 [(nth v0 0), (nth v0 1), (I 1)] fun v1 => zb .and v1 (U 65535) fun v2 => .op (.conv .i64 v2) fun v3 => zn (nth v0 0) fun v4 => zf 21 v4 fun v5 => zf 1 v5 fun v6 => (a454x0 v3 v6)
theorem e454 : denFn prog f454 [] = a454 := by kernel_rfl
def a455x0 (b2 : AV) : AC := zf 0 b2 fun b3 => zf 17 b3 fun b4 => zs b4 (I 11) fun b5 => zm []
def a455x1 (b8 bb : AV) : AC := zs bb b8 fun bc => zm []
def a455x2 (v0 : List AV) (b5 : AV) : AC := zf 2 b5 fun b6 => zl b6 fun b7 => zc 457 [b7] fun b8 => zn (nth v0 0) fun b9 => zf 0 b9 fun ba => zf 23 ba fun bb => (a455x1 b8 bb)
def a455x3 (v0 : List AV) (b1 : AV) : AC := .bind (.ite b1 (zn (nth v0 0) fun b2 => (a455x0 b2)) (zm [])) none (fun b2 => zn (nth v0 0) fun b3 => zf 0 b3 fun b4 => zf 13 b4 fun b5 => (a455x2 v0 b5)) (fun b2 => [])
def a455x4 (v0 : List AV) : AC := zn (nth v0 0) fun v6 => zf 0 v6 fun v7 => zf 13 v7 fun v8 => zf 2 v8 fun v9 => zl v9 fun b0 => zc 456 [b0, (nth v0 1)] fun b1 => (a455x3 v0 b1)
def a455x5 (c0 : AV) : AC := zf 0 c0 fun c1 => zf 17 c1 fun c2 => zs c2 (I 12) fun c3 => zm []
def a455x6 (v0 : List AV) (bt : AV) : AC := zn (nth v0 0) fun bu => zf 0 bu fun bv => zf 13 bv fun bw => zf 3 bw fun bx => zs bx bt fun bz => zn (nth v0 0) fun c0 => (a455x5 c0)
def a455x7 (v0 : List AV) (bn : AV) : AC := .op (.load 10 true bn) fun bo => zn (nth v0 0) fun bp => zf 0 bp fun bq => zf 19 bq fun br => zl br fun bs => zc 458 [bo, bs] fun bt => (a455x6 v0 bt)
def a455x8 (v0 : List AV) (bj : AV) : AC := .ite bj (zn (nth v0 0) fun bk => zf 0 bk fun bl => zf 0 bl fun bm => zf 3 bm fun bn => (a455x7 v0 bn)) (zm [])
def a455x9 (v0 : List AV) (bc be : AV) : AC := zf 19 be fun bf => zl bf fun bg => zc 29 [bc, bg, (I 3)] fun bh => zc 109 [(nth v0 1), bh, (U 18446744073709551615)] fun bi => zb .eql bi (U 0) fun bj => .bind (a455x8 v0 bj) none (fun bk => zm []) (fun bk => [])
def a455x10 (v0 : List AV) : AC := zn (nth v0 0) fun b9 => zf 0 b9 fun ba => zf 0 ba fun bb => .op (.load 13 true bb) fun bc => zn (nth v0 0) fun bd => zf 0 bd fun be => (a455x9 v0 bc be)
def a455x11 (v0 : List AV) (b0 b2 : AV) : AC := zf 23 b2 fun b3 => zs b3 b0 fun b4 => zn (nth v0 0) fun b5 => zf 0 b5 fun b6 => zf 17 b6 fun b7 => zs b7 (I 99) fun b8 => (a455x10 v0)
def a455x12 (v0 : List AV) : AC := zn (nth v0 0) fun v7 => zf 0 v7 fun v8 => zf 18 v8 fun v9 => zl v9 fun b0 => zn (nth v0 0) fun b1 => zf 0 b1 fun b2 => (a455x11 v0 b0 b2)
def a455x13 (v0 : List AV) (b7 : AV) : AC := .ite b7 (zn (nth v0 0) fun b8 => zf 0 b8 fun b9 => zf 17 b9 fun ba => zs ba (I 99) fun bb => zm []) (zm [])
def a455x14 (v0 : List AV) (b3 : AV) : AC := zf 13 b3 fun b4 => zf 3 b4 fun b5 => zl b5 fun b6 => zc 459 [b6, (nth v0 1)] fun b7 => .bind (a455x13 v0 b7) none (fun b8 => zm []) (fun b8 => [])
def a455x15 (v0 : List AV) : AC := zn (nth v0 0) fun v8 => zf 0 v8 fun v9 => zf 23 v9 fun b0 => zs b0 (U 0) fun b1 => zn (nth v0 0) fun b2 => zf 0 b2 fun b3 => (a455x14 v0 b3)
def a455x16 (v0 : List AV) (v4 : AV) : AC := zb .eql v4 (I 12) fun v7 => .bind (.ite v7 (a455x15 v0) (zm [])) none (fun v8 => zm []) (fun v8 => [])
def a455x17 (v0 : List AV) (v4 : AV) : AC := zb .eql v4 (I 11) fun v6 => .bind (.ite v6 (a455x12 v0) (a455x16 v0 v4)) none (fun v7 => zm []) (fun v7 => [])
def a455x18 (v0 : List AV) (v4 : AV) : AC := zb .eql v4 (I 10) fun v5 => .bind (.ite v5 (a455x4 v0) (a455x17 v0 v4)) none (fun v6 => zm []) (fun v6 => [])
def a455 : List AV → AC := fun v0 => zn (nth v0 0) fun v1 => zf 0 v1 fun v2 => zf 17 v2 fun v3 => zl v3 fun v4 => .bind (a455x18 v0 v4) (some 0) (fun v5 => zr []) (fun v5 => [])
theorem e455 : denFn prog f455 [] = a455 := by kernel_rfl
def a456x0 (v0 : List AV) : AC := zc 379 [(nth v0 0)] fun c8 => .ret (.exit 0) []
def a456x1 (v0 : List AV) (c3 : AV) : AC := zf 15 c3 fun c4 => zf 3 c4 fun c5 => zl c5 fun c6 => zc 86 [c6] fun c7 => .ite c7 (a456x0 v0) (zm [])
def a456x2 (v0 : List AV) (bf : AV) : AC := zc 132 [(nth v0 1), bf] fun bx => zn (nth v0 0) fun bz => zf 15 bz fun c0 => zf 3 c0 fun c1 => zs c1 bx fun c2 => zn (nth v0 0) fun c3 => (a456x1 v0 c3)
def a456x3 (v0 : List AV) (co : AV) : AC := .ite co (zn (nth v0 0) fun cp => zf 14 cp fun cq => zs cq (I 3) fun cr => zm []) (zm [])
def a456x4 (v0 : List AV) (cj : AV) : AC := zs cj (I 4) fun ck => zn (nth v0 0) fun cl => zf 19 cl fun cm => zl cm fun cn => zc 86 [cn] fun co => .bind (a456x3 v0 co) none (fun cp => .ret (.exit 0) []) (fun cp => [])
def a456x5 (v0 : List AV) (cd : AV) : AC := zc 132 [(nth v0 1), cd] fun ce => zn (nth v0 0) fun cf => zf 19 cf fun cg => zs cg ce fun ch => zn (nth v0 0) fun ci => zf 14 ci fun cj => (a456x4 v0 cj)
def a456x6 (v0 : List AV) (bk c7 : AV) : AC := .op (.load 13 true c7) fun c8 => zn (nth v0 0) fun c9 => zf 15 c9 fun ca => zf 0 ca fun cb => zl cb fun cc => zc 88 [c8, bk, cc] fun cd => (a456x5 v0 cd)
def a456x7 (v0 : List AV) (bk c1 : AV) : AC := zl c1 fun c2 => zn (nth v0 0) fun c3 => zf 21 c3 fun c4 => zs c4 c2 fun c5 => zn (nth v0 0) fun c6 => zf 0 c6 fun c7 => (a456x6 v0 bk c7)
def a456x8 (v0 : List AV) (cc : AV) : AC := zc 370 [cc, (B false)] fun cd => zn (nth v0 0) fun ce => zf 15 ce fun cf => zf 3 cf fun cg => zs cg cd fun ch => zm []
def a456x9 (v0 : List AV) (c8 : AV) : AC := .op (.un .not c8) fun c9 => .ite c9 (zc 379 [(nth v0 0)] fun ca => .ret (.exit 0) []) (zn (nth v0 0) fun ca => zf 19 ca fun cb => zl cb fun cc => (a456x8 v0 cc))
def a456x10 (v0 : List AV) (bf c2 c3 : AV) : AC := zn (nth v0 0) fun c4 => zf 19 c4 fun c5 => zl c5 fun c6 => zc 370 [c6, (B false)] fun c7 => .chk (.load 1 false c2) c3 (zc 285 [(nth v0 1), bf, c3, c7] fun c8 => (a456x9 v0 c8))
def a456x11 (v0 : List AV) : AC := zc 461 [(nth v0 0)] fun ch => .ret (.exit 0) []
def a456x12 (cn cy : AV) : AC := zs cy cn fun cz => zm []
def a456x13 (v0 : List AV) (ck cn cs : AV) : AC := zf 15 cs fun ct => zf 2 ct fun cu => zs cu ck fun cv => zn (nth v0 0) fun cw => zf 15 cw fun cx => zf 3 cx fun cy => (a456x12 cn cy)
def a456x14 (v0 : List AV) (bk ck cm : AV) : AC := zl cm fun cn => zn (nth v0 0) fun co => zf 15 co fun cp => zf 1 cp fun cq => zs cq bk fun cr => zn (nth v0 0) fun cs => (a456x13 v0 ck cn cs)
def a456x15 (v0 : List AV) (bk : AV) : AC := zn (nth v0 0) fun ch => zf 15 ch fun ci => zf 3 ci fun cj => zl cj fun ck => zn (nth v0 0) fun cl => zf 19 cl fun cm => (a456x14 v0 bk ck cm)
def a456x16 (v0 : List AV) (bk ca cc cd : AV) : AC := zc 29 [ca, bk, (I 0)] fun ce => .chk (.load 1 false cc) cd (zc 132 [(nth v0 1), ce] fun cf => .chk (.load 1 false cc) cd (zb .geq cf cd fun cg => .ite cg (a456x11 v0) (a456x15 v0 bk)))
def a456x17 (v0 : List AV) (bk : AV) : AC := zn (nth v0 0) fun c8 => zf 0 c8 fun c9 => .op (.load 13 true c9) fun ca => zn (nth v0 0) fun cb => zf 13 cb fun cc => zl cc fun cd => (a456x16 v0 bk ca cc cd)
def a456x18 (v0 : List AV) (bk c1 : AV) : AC := zf 15 c1 fun c2 => zf 3 c2 fun c3 => zl c3 fun c4 => zn (nth v0 0) fun c5 => zf 21 c5 fun c6 => zs c6 c4 fun c7 => (a456x17 v0 bk)
def a456x19 (c1 : AV) : AC := zf 14 c1 fun c2 => zs c2 (I 1) fun c3 => .ret (.exit 1) []
def a456x20 (v0 : List AV) (bf bk bv bz : AV) : AC := .ite bz (zn (nth v0 0) fun c0 => zf 15 c0 fun c1 => zf 3 c1 fun c2 => zl c2 fun c3 => (a456x10 v0 bf c2 c3)) (zb .eql bv (I 4) fun c0 => .ite c0 (zn (nth v0 0) fun c1 => (a456x18 v0 bk c1)) (zn (nth v0 0) fun c1 => (a456x19 c1)))
def a456x21 (v0 : List AV) (bf bk bv : AV) : AC := zb .eql bv (I 2) fun bx => .ite bx (zn (nth v0 0) fun bz => zf 15 bz fun c0 => zf 3 c0 fun c1 => (a456x7 v0 bk c1)) (zb .eql bv (I 3) fun bz => .bind (a456x20 v0 bf bk bv bz) none (fun c0 => zm []) (fun c0 => []))
def a456x22 (v0 : List AV) (bf bk bv : AV) : AC := zb .eql bv (I 1) fun bw => .bind (.ite bw (a456x2 v0 bf) (a456x21 v0 bf bk bv)) none (fun bx => zm []) (fun bx => [])
def a456x23 (v0 : List AV) : AC := zc 462 [(nth v0 0)] fun bx => .ret (.exit 0) []
def a456x24 (v0 : List AV) (bf bk : AV) : AC := zn (nth v0 0) fun bt => zf 14 bt fun bu => zl bu fun bv => .bind (a456x22 v0 bf bk bv) (some 2) (fun bw => (a456x23 v0)) (fun bw => [])
def a456x25 (v0 : List AV) (bf bk : AV) : AC := .loop [] (fun bs => .bind (a456x24 v0 bf bk) (some 1) (fun bt => zm []) (fun bt => [])) (fun bs => [])
def a456x26 (v0 : List AV) : AC := zn (nth v0 0) fun bt => zf 14 bt fun bu => zl bu fun bv => zb .eql bv (I 9) fun bw => zr [bw]
def a456x27 (v0 : List AV) (bf bk bo : AV) : AC := zn (nth v0 0) fun bp => zf 21 bp fun bq => zs bq bo fun br => .bind (a456x25 v0 bf bk) (some 0) (fun bs => (a456x26 v0)) (fun bs => [(B false)])
def a456x28 (v0 : List AV) (bf bi : AV) : AC := zl bi fun bj => zc 460 [(nth v0 0), bj] fun bk => zn (nth v0 0) fun bl => zf 15 bl fun bm => zf 2 bm fun bn => zl bn fun bo => (a456x27 v0 bf bk bo)
def a456x29 (v0 : List AV) (b6 ba bc : AV) : AC := zf 0 bc fun bd => zl bd fun be => zc 88 [b6, ba, be] fun bf => zn (nth v0 0) fun bg => zf 15 bg fun bh => zf 3 bh fun bi => (a456x28 v0 bf bi)
def a456x30 (v0 : List AV) (b6 : AV) : AC := zn (nth v0 0) fun b7 => zf 15 b7 fun b8 => zf 1 b8 fun b9 => zl b9 fun ba => zn (nth v0 0) fun bb => zf 15 bb fun bc => (a456x29 v0 b6 ba bc)
def a456x31 (v0 : List AV) (v7 b2 : AV) : AC := zi v7 (B true) b2 fun b3 => .ite b3 (zr [(B true)]) (zn (nth v0 0) fun b4 => zf 0 b4 fun b5 => .op (.load 13 true b5) fun b6 => (a456x30 v0 b6))
def a456x32 (v0 : List AV) (v1 v6 : AV) : AC := zi v1 (B true) v6 fun v7 => zu v7 (.mv (nth v0 0)) fun v8 => zu v7 (.nilchk v8) fun v9 => zu v7 (.faddr 14 v9) fun b0 => zu v7 (.load 1 false b0) fun b1 => zu v7 (.bin .eql b1 (I 9)) fun b2 => (a456x31 v0 v7 b2)
def a456 : List AV → AC := fun v0 => .op (.eq 447 false (nth v0 0) Np) fun v1 => zu v1 (.mv (nth v0 0)) fun v2 => zu v1 (.nilchk v2) fun v3 => zu v1 (.faddr 22 v3) fun v4 => zu v1 (.load 1 false v4) fun v5 => zu v1 (.un .not v5) fun v6 => (a456x32 v0 v1 v6)
theorem e456 : denFn prog f456 [4] = a456 := by kernel_rfl
def a457 : List AV → AC := fun v0 => .op (.eq 447 false (nth v0 0) Np) fun v1 => .ite v1 (zr [(U 0)]) (zn (nth v0 0) fun v2 => zf 21 v2 fun v3 => zl v3 fun v4 => zr [v4])
theorem e457 : denFn prog f457 [2] = a457 := by kernel_rfl
def a458x0 (v5 b6 : AV) : AC := zs b6 (I 3) fun b7 => zr [v5]
def a458x1 (v5 b6 : AV) : AC := .op (.store 1 b6 (.fn (.func 463) [v5] [])) fun b7 => zr [v5]
def a458x2 (v5 v6 b2 : AV) : AC := zi v6 (B true) b2 fun b3 => .ite b3 (zn v5 fun b4 => zf 0 b4 fun b5 => zf 2 b5 fun b6 => (a458x0 v5 b6)) (zn v5 fun b4 => zf 0 b4 fun b5 => zf 0 b5 fun b6 => (a458x1 v5 b6))
def a458x3 (v0 : List AV) (v1 v5 v6 : AV) : AC := zu v6 (.mv (nth v0 1)) fun v7 => zu v6 (.faddr 0 v1) fun v8 => zu v6 (.faddr 0 v8) fun v9 => zu v6 (.faddr 2 v9) fun b0 => zu v6 (.load 1 false b0) fun b1 => zu v6 (.bin .geq v7 b1) fun b2 => (a458x2 v5 v6 b2)
def a458 : List AV → AC := fun v0 => .op (.box (nth v0 0)) fun v1 => .op (.build [Nf, (B false), (I 0)] [(1, 1, (B true))]) fun v2 => .op (.load 10 true v1) fun v3 => .op (.build [Nf, (B false), (I 0), (I 0), (I 0), (I 0), (I 0), (I 0), (I 0), (I 0), (I 0), (I 0), (I 0), (I 0), Np] [(0, 3, v2), (3, 10, v3), (13, 1, (nth v0 1))]) fun v4 => .op (.box v4) fun v5 => zb .lss (nth v0 1) (I 0) fun v6 => (a458x3 v0 v1 v5 v6)
theorem e458 : denFn prog f458 [4] = a458 := by kernel_rfl
def a459x0 (v1 v6 : AV) : AC := zi v1 (B true) v6 fun v7 => zr [v7]
def a459 : List AV → AC := fun v0 => .op (.eq 448 false (nth v0 0) Np) fun v1 => zu v1 (.mv (nth v0 0)) fun v2 => zu v1 (.nilchk v2) fun v3 => zu v1 (.faddr 0 v3) fun v4 => zu v1 (.mv (nth v0 1)) fun v5 => .gcall v1 false (zF 464) [v4, v5] fun v6 => (a459x0 v1 v6)
theorem e459 : denFn prog f459 [] = a459 := by kernel_rfl
end
end Tryz
end Go.Proofs
