/- The bodies of the functions of this cut, gone through ahead, and that each is its function. No condition. -/
import Derived.Test.YtgafihmncgkijaaGreatT0
set_option linter.unusedVariables false
set_option maxRecDepth 100000
namespace Go.Proofs
open Go.Abs
noncomputable def Tryz.a529x0 (v0 : List AV) (v15 : AV) (v17 : AV) : AC := .op (.store 1 v17 v15) fun v18 => .op (.nilchk (nth v0 0)) fun v19 => .op (.faddr 1 v19) fun v20 => .op (.store 1 v20 Np) fun v21 => .ret .normal []
noncomputable def Tryz.a529x1 (v0 : List AV) : AC := .op (.nilchk (nth v0 0)) fun v12 => .op (.faddr 1 v12) fun v13 => .op (.load 1 false v13) fun v14 => .call (.fn (.func 531) [] []) [v14] fun v15 => .op (.nilchk (nth v0 0)) fun v16 => .op (.faddr 2 v16) fun v17 => (Tryz.a529x0 v0 v15 v17)
noncomputable def Tryz.a529x2 (v0 : List AV) (v10 : AV) : AC := .call (.fn (.func 530) [] []) [v10, (nth v0 1)] fun v11 => .bind (.ite v11 ((Tryz.a529x1 v0)) (.ret .normal [])) none (fun v12 => .ret .ret [v11]) (fun v12 => [(B false)])
noncomputable def Tryz.a529x3 (v0 : List AV) (v1 : AV) (v6 : AV) : AC := .op (.pick v1 (B true) v6) fun v7 => .ite v7 (.ret .ret [(B true)]) (.op (.nilchk (nth v0 0)) fun v8 => .op (.faddr 1 v8) fun v9 => .op (.load 1 false v9) fun v10 => (Tryz.a529x2 v0 v10))
noncomputable def Tryz.a529 : List AV → AC := fun v0 => .op (.eq 339 false (nth v0 0) Np) fun v1 => .gop v1 false (.mv (nth v0 0)) fun v2 => .gop v1 false (.nilchk v2) fun v3 => .gop v1 false (.faddr 1 v3) fun v4 => .gop v1 false (.load 1 false v4) fun v5 => .gop v1 false (.eq 409 false v5 Np) fun v6 => (Tryz.a529x3 v0 v1 v6)
theorem Tryz.e529 : denFn Tryz.prog Tryz.f529 [4] = Tryz.a529 := by kernel_rfl
noncomputable def Tryz.a530x0 (v1 : AV) (v6 : AV) : AC := .op (.pick v1 (B true) v6) fun v7 => .ret .ret [v7]
noncomputable def Tryz.a530 : List AV → AC := fun v0 => .op (.eq 409 false (nth v0 0) Np) fun v1 => .gop v1 false (.mv (nth v0 0)) fun v2 => .gop v1 false (.nilchk v2) fun v3 => .gop v1 false (.faddr 0 v3) fun v4 => .gop v1 false (.mv (nth v0 1)) fun v5 => .gcall v1 false (.fn (.func 532) [] []) [v4, v5] fun v6 => (Tryz.a530x0 v1 v6)
theorem Tryz.e530 : denFn Tryz.prog Tryz.f530 [] = Tryz.a530 := by kernel_rfl
noncomputable def Tryz.a531 : List AV → AC := fun v0 => .op (.eq 409 false (nth v0 0) Np) fun v1 => .ite v1 (.ret .ret [(I 1)]) (.op (.nilchk (nth v0 0)) fun v2 => .op (.faddr 0 v2) fun v3 => .call (.fn (.func 360) [] []) [v3] fun v4 => .ret .ret [v4])
theorem Tryz.e531 : denFn Tryz.prog Tryz.f531 [2] = Tryz.a531 := by kernel_rfl
noncomputable def Tryz.a532x0 (v0 : List AV) (v4 : AV) : AC := .ite v4 (.op (.nilchk (nth v0 0)) fun v5 => .op (.faddr 4 v5) fun v6 => .op (.load 1 false v6) fun v7 => .call v7 [(nth v0 1)] fun v8 => .ret .normal []) (.ret .normal [])
noncomputable def Tryz.a532x1 (v0 : List AV) : AC := .op (.nilchk (nth v0 0)) fun v6 => .op (.faddr 4 v6) fun v7 => .op (.load 1 false v7) fun v8 => .op (.eq 335 false v8 Nf) fun v9 => .ret .ret [v9]
noncomputable def Tryz.a532 : List AV → AC := fun v0 => .op (.nilchk (nth v0 0)) fun v1 => .op (.faddr 4 v1) fun v2 => .op (.load 1 false v2) fun v3 => .op (.eq 335 true v3 Nf) fun v4 => .bind ((Tryz.a532x0 v0 v4)) none (fun v5 => (Tryz.a532x1 v0)) (fun v5 => [(B false)])
theorem Tryz.e532 : denFn Tryz.prog Tryz.f532 [] = Tryz.a532 := by kernel_rfl
noncomputable def Tryz.a536x0 (v1 : AV) (v6 : AV) : AC := .op (.pick v1 (B true) v6) fun v7 => .ret .ret [v7]
noncomputable def Tryz.a536 : List AV → AC := fun v0 => .op (.eq 405 false (nth v0 0) Np) fun v1 => .gop v1 false (.mv (nth v0 0)) fun v2 => .gop v1 false (.nilchk v2) fun v3 => .gop v1 false (.faddr 0 v3) fun v4 => .gop v1 false (.mv (nth v0 1)) fun v5 => .gcall v1 false (.fn (.func 526) [] []) [v4, v5] fun v6 => (Tryz.a536x0 v1 v6)
theorem Tryz.e536 : denFn Tryz.prog Tryz.f536 [] = Tryz.a536 := by kernel_rfl
end Go.Proofs
