/- functions of this cut: what they compute, in the abstract machine. Conditions: stated in each theorem -/
import Derived.Test.YtlafihfoofnmaaaGreatE1
import Derived.Test.YtlafihfoofnmaaaGreatE0
set_option linter.unusedVariables false
set_option linter.unusedSimpArgs false
namespace Go.Abs
open Go.Proofs
set_option maxRecDepth 100000
set_option linter.unusedVariables false
/-! ### where parts lie: what fits -/
section
variable {S : AH} {a b n k h : Int}
theorem sizedS_ok (h1 : 1 ≤ n ∧ n ≤ 4096) : wpC EM (.fn (.func 143) [] []) [.agg [I a, I b, I n]] S fun r S' => r = B true ∧ Grows S S' := by
  refine wpC_fn (b := Tryz.a143) rfl rfl ?_
  have H : Cx S [] S [] [] := Cx.enter (by simp)
  unfold Tryz.a143 Tryz.a143x0
  repeat' (first | (first|refine zA ?_|refine zB rfl ?_|refine zC ?_|refine zD ?_|refine zE rfl ?_|refine zF ?_|refine zG ?_|refine zH ?_|refine zI ?_|refine zJ ?_|refine zK ?_|refine zL rfl ?_|refine zN rfl ?_) | refine wp_bind ?_ | refine wp_box (by assumption) rfl fun _ _ _ => ?_ | refine wp_tmpN (by assumption) rfl rfl rfl fun _ _ _ => ?_ | refine wp_ld (by assumption) (by repeat (first | exact List.Mem.head _ | apply List.Mem.tail)) rfl ?_ | refine wp_ldn (by assumption) (by repeat (first | exact List.Mem.head _ | apply List.Mem.tail)) rfl ?_ | refine wp_notT ?_ | refine wp_notF ?_ | (refine wp_ret ?_; show wp EM _ _ _) | refine wp_lss (fun _ => ?_) (fun _ => ?_) | refine wp_gtr (fun _ => ?_) (fun _ => ?_) | refine wp_leq (fun _ => ?_) (fun _ => ?_) | refine wp_geq (fun _ => ?_) (fun _ => ?_) | refine wp_eql (fun _ => ?_) (fun _ => ?_) | refine wp_neq (fun _ => ?_) (fun _ => ?_) | refine wp_add64 (by omega) (by omega) ?_ | refine wp_sub64 (by omega) (by omega) ?_)
  all_goals first | (exfalso; omega) | exact wp_ret ⟨rfl, rfl, Cx.grows (by assumption)⟩
theorem fitsS_ok (hk : 1 ≤ k ∧ k ≤ 4096) (h1 : 1 ≤ n ∧ n ≤ k) (h2 : 0 ≤ a ∧ a < k) (h3 : 0 ≤ b ∧ b + n ≤ k) (h4 : a < b ∨ b + n ≤ a) : wpC EM (.fn (.func 66) [] []) [.agg [I a, I b, I n], I k] S fun r S' => r = I 0 ∧ Grows S S' := by
  refine wpC_fn (b := Tryz.a66) rfl rfl ?_
  have H : Cx S [] S [] [] := Cx.enter (by simp)
  unfold Tryz.a66 Tryz.a66x6 Tryz.a66x5 Tryz.a66x4 Tryz.a66x3 Tryz.a66x2 Tryz.a66x1 Tryz.a66x0
  repeat' (first | (first | (first|refine zA ?_|refine zB rfl ?_|refine zC ?_|refine zD ?_|refine zE rfl ?_|refine zF ?_|refine zG ?_|refine zH ?_|refine zI ?_|refine zJ ?_|refine zK ?_|refine zL rfl ?_|refine zN rfl ?_) | refine wp_bind ?_ | refine wp_box (by assumption) rfl fun _ _ _ => ?_ | refine wp_tmpN (by assumption) rfl rfl rfl fun _ _ _ => ?_ | refine wp_ld (by assumption) (by repeat (first | exact List.Mem.head _ | apply List.Mem.tail)) rfl ?_ | refine wp_ldn (by assumption) (by repeat (first | exact List.Mem.head _ | apply List.Mem.tail)) rfl ?_ | refine wp_notT ?_ | refine wp_notF ?_ | (refine wp_ret ?_; show wp EM _ _ _) | refine wp_lss (fun _ => ?_) (fun _ => ?_) | refine wp_gtr (fun _ => ?_) (fun _ => ?_) | refine wp_leq (fun _ => ?_) (fun _ => ?_) | refine wp_geq (fun _ => ?_) (fun _ => ?_) | refine wp_eql (fun _ => ?_) (fun _ => ?_) | refine wp_neq (fun _ => ?_) (fun _ => ?_) | refine wp_add64 (by omega) (by omega) ?_ | refine wp_sub64 (by omega) (by omega) ?_) | refine wp_callV (by assumption) (sizedS_ok (by omega)) fun _ _ => ?_)
  all_goals first | (exfalso; omega) | exact wp_ret ⟨rfl, rfl, Cx.grows (by assumption)⟩
theorem sizedE_ok (h1 : 1 ≤ n ∧ n ≤ 64) : wpC EM (.fn (.func 225) [] []) [.agg [I a, I b, I n]] S fun r S' => r = B true ∧ Grows S S' := by
  refine wpC_fn (b := Tryz.a225) rfl rfl ?_
  have H : Cx S [] S [] [] := Cx.enter (by simp)
  unfold Tryz.a225 Tryz.a225x0
  repeat' (first | (first|refine zA ?_|refine zB rfl ?_|refine zC ?_|refine zD ?_|refine zE rfl ?_|refine zF ?_|refine zG ?_|refine zH ?_|refine zI ?_|refine zJ ?_|refine zK ?_|refine zL rfl ?_|refine zN rfl ?_) | refine wp_bind ?_ | refine wp_box (by assumption) rfl fun _ _ _ => ?_ | refine wp_tmpN (by assumption) rfl rfl rfl fun _ _ _ => ?_ | refine wp_ld (by assumption) (by repeat (first | exact List.Mem.head _ | apply List.Mem.tail)) rfl ?_ | refine wp_ldn (by assumption) (by repeat (first | exact List.Mem.head _ | apply List.Mem.tail)) rfl ?_ | refine wp_notT ?_ | refine wp_notF ?_ | (refine wp_ret ?_; show wp EM _ _ _) | refine wp_lss (fun _ => ?_) (fun _ => ?_) | refine wp_gtr (fun _ => ?_) (fun _ => ?_) | refine wp_leq (fun _ => ?_) (fun _ => ?_) | refine wp_geq (fun _ => ?_) (fun _ => ?_) | refine wp_eql (fun _ => ?_) (fun _ => ?_) | refine wp_neq (fun _ => ?_) (fun _ => ?_) | refine wp_add64 (by omega) (by omega) ?_ | refine wp_sub64 (by omega) (by omega) ?_)
  all_goals first | (exfalso; omega) | exact wp_ret ⟨rfl, rfl, Cx.grows (by assumption)⟩
theorem fitsE_ok (hk : 1 ≤ k ∧ k ≤ 4096) (h1 : 1 ≤ n ∧ n ≤ 64) (h2 : 0 ≤ a ∧ a < k) (h3 : 0 ≤ b ∧ b + n ≤ k) (h4 : a < b ∨ b + n ≤ a) : wpC EM (.fn (.func 141) [] []) [.agg [I a, I b, I n], I k] S fun r S' => r = I 0 ∧ Grows S S' := by
  refine wpC_fn (b := Tryz.a141) rfl rfl ?_
  have H : Cx S [] S [] [] := Cx.enter (by simp)
  unfold Tryz.a141 Tryz.a141x6 Tryz.a141x5 Tryz.a141x4 Tryz.a141x3 Tryz.a141x2 Tryz.a141x1 Tryz.a141x0
  repeat' (first | (first | (first|refine zA ?_|refine zB rfl ?_|refine zC ?_|refine zD ?_|refine zE rfl ?_|refine zF ?_|refine zG ?_|refine zH ?_|refine zI ?_|refine zJ ?_|refine zK ?_|refine zL rfl ?_|refine zN rfl ?_) | refine wp_bind ?_ | refine wp_box (by assumption) rfl fun _ _ _ => ?_ | refine wp_tmpN (by assumption) rfl rfl rfl fun _ _ _ => ?_ | refine wp_ld (by assumption) (by repeat (first | exact List.Mem.head _ | apply List.Mem.tail)) rfl ?_ | refine wp_ldn (by assumption) (by repeat (first | exact List.Mem.head _ | apply List.Mem.tail)) rfl ?_ | refine wp_notT ?_ | refine wp_notF ?_ | (refine wp_ret ?_; show wp EM _ _ _) | refine wp_lss (fun _ => ?_) (fun _ => ?_) | refine wp_gtr (fun _ => ?_) (fun _ => ?_) | refine wp_leq (fun _ => ?_) (fun _ => ?_) | refine wp_geq (fun _ => ?_) (fun _ => ?_) | refine wp_eql (fun _ => ?_) (fun _ => ?_) | refine wp_neq (fun _ => ?_) (fun _ => ?_) | refine wp_add64 (by omega) (by omega) ?_ | refine wp_sub64 (by omega) (by omega) ?_) | refine wp_callV (by assumption) (sizedE_ok (by omega)) fun _ _ => ?_)
  all_goals first | (exfalso; omega) | exact wp_ret ⟨rfl, rfl, Cx.grows (by assumption)⟩
theorem sizedG_ok (h1 : 1 ≤ n ∧ n ≤ 32) : wpC EM (.fn (.func 65) [] []) [.agg [I a, I n]] S fun r S' => r = B true ∧ Grows S S' := by
  refine wpC_fn (b := Tryz.a65) rfl rfl ?_
  have H : Cx S [] S [] [] := Cx.enter (by simp)
  unfold Tryz.a65 Tryz.a65x0
  repeat' (first | (first|refine zA ?_|refine zB rfl ?_|refine zC ?_|refine zD ?_|refine zE rfl ?_|refine zF ?_|refine zG ?_|refine zH ?_|refine zI ?_|refine zJ ?_|refine zK ?_|refine zL rfl ?_|refine zN rfl ?_) | refine wp_bind ?_ | refine wp_box (by assumption) rfl fun _ _ _ => ?_ | refine wp_tmpN (by assumption) rfl rfl rfl fun _ _ _ => ?_ | refine wp_ld (by assumption) (by repeat (first | exact List.Mem.head _ | apply List.Mem.tail)) rfl ?_ | refine wp_ldn (by assumption) (by repeat (first | exact List.Mem.head _ | apply List.Mem.tail)) rfl ?_ | refine wp_notT ?_ | refine wp_notF ?_ | (refine wp_ret ?_; show wp EM _ _ _) | refine wp_lss (fun _ => ?_) (fun _ => ?_) | refine wp_gtr (fun _ => ?_) (fun _ => ?_) | refine wp_leq (fun _ => ?_) (fun _ => ?_) | refine wp_geq (fun _ => ?_) (fun _ => ?_) | refine wp_eql (fun _ => ?_) (fun _ => ?_) | refine wp_neq (fun _ => ?_) (fun _ => ?_) | refine wp_add64 (by omega) (by omega) ?_ | refine wp_sub64 (by omega) (by omega) ?_)
  all_goals first | (exfalso; omega) | exact wp_ret ⟨rfl, rfl, Cx.grows (by assumption)⟩
theorem fitsG_ok (hk : 1 ≤ k ∧ k ≤ 4096) (h1 : 1 ≤ n ∧ n ≤ 32) (h2 : 0 ≤ a ∧ a + n ≤ k) : wpC EM (.fn (.func 31) [] []) [.agg [I a, I n], I k] S fun r S' => r = I 0 ∧ Grows S S' := by
  refine wpC_fn (b := Tryz.a31) rfl rfl ?_
  have H : Cx S [] S [] [] := Cx.enter (by simp)
  unfold Tryz.a31 Tryz.a31x2 Tryz.a31x1 Tryz.a31x0
  repeat' (first | (first | (first|refine zA ?_|refine zB rfl ?_|refine zC ?_|refine zD ?_|refine zE rfl ?_|refine zF ?_|refine zG ?_|refine zH ?_|refine zI ?_|refine zJ ?_|refine zK ?_|refine zL rfl ?_|refine zN rfl ?_) | refine wp_bind ?_ | refine wp_box (by assumption) rfl fun _ _ _ => ?_ | refine wp_tmpN (by assumption) rfl rfl rfl fun _ _ _ => ?_ | refine wp_ld (by assumption) (by repeat (first | exact List.Mem.head _ | apply List.Mem.tail)) rfl ?_ | refine wp_ldn (by assumption) (by repeat (first | exact List.Mem.head _ | apply List.Mem.tail)) rfl ?_ | refine wp_notT ?_ | refine wp_notF ?_ | (refine wp_ret ?_; show wp EM _ _ _) | refine wp_lss (fun _ => ?_) (fun _ => ?_) | refine wp_gtr (fun _ => ?_) (fun _ => ?_) | refine wp_leq (fun _ => ?_) (fun _ => ?_) | refine wp_geq (fun _ => ?_) (fun _ => ?_) | refine wp_eql (fun _ => ?_) (fun _ => ?_) | refine wp_neq (fun _ => ?_) (fun _ => ?_) | refine wp_add64 (by omega) (by omega) ?_ | refine wp_sub64 (by omega) (by omega) ?_) | refine wp_callV (by assumption) (sizedG_ok (by omega)) fun _ _ => ?_)
  all_goals first | (exfalso; omega) | exact wp_ret ⟨rfl, rfl, Cx.grows (by assumption)⟩
theorem fitsR_ok (hk : 1 ≤ k ∧ k ≤ 4096) (h1 : 1 ≤ n ∧ n ≤ 64) (h2 : 0 ≤ a ∧ a + n = b ∧ b + n ≤ k) : wpC EM (.fn (.func 34) [] []) [.agg [I a, I b, I n], I k] S fun r S' => r = I 0 ∧ Grows S S' := by
  refine wpC_fn (b := Tryz.a34) rfl rfl ?_
  have H : Cx S [] S [] [] := Cx.enter (by simp)
  unfold Tryz.a34 Tryz.a34x6 Tryz.a34x5 Tryz.a34x4 Tryz.a34x3 Tryz.a34x2 Tryz.a34x1 Tryz.a34x0
  repeat' (first | (first | (first|refine zA ?_|refine zB rfl ?_|refine zC ?_|refine zD ?_|refine zE rfl ?_|refine zF ?_|refine zG ?_|refine zH ?_|refine zI ?_|refine zJ ?_|refine zK ?_|refine zL rfl ?_|refine zN rfl ?_) | refine wp_bind ?_ | refine wp_box (by assumption) rfl fun _ _ _ => ?_ | refine wp_tmpN (by assumption) rfl rfl rfl fun _ _ _ => ?_ | refine wp_ld (by assumption) (by repeat (first | exact List.Mem.head _ | apply List.Mem.tail)) rfl ?_ | refine wp_ldn (by assumption) (by repeat (first | exact List.Mem.head _ | apply List.Mem.tail)) rfl ?_ | refine wp_notT ?_ | refine wp_notF ?_ | (refine wp_ret ?_; show wp EM _ _ _) | refine wp_lss (fun _ => ?_) (fun _ => ?_) | refine wp_gtr (fun _ => ?_) (fun _ => ?_) | refine wp_leq (fun _ => ?_) (fun _ => ?_) | refine wp_geq (fun _ => ?_) (fun _ => ?_) | refine wp_eql (fun _ => ?_) (fun _ => ?_) | refine wp_neq (fun _ => ?_) (fun _ => ?_) | refine wp_add64 (by omega) (by omega) ?_ | refine wp_sub64 (by omega) (by omega) ?_) | refine wp_min2 ?_ | refine wp_max2 ?_ | refine wp_callV (by assumption) (sizedR_ok (by omega)) fun _ _ => ?_)
  all_goals first | (exfalso; omega) | exact wp_ret ⟨rfl, rfl, Cx.grows (by assumption)⟩
theorem sizeM_ok (h1 : mailP a n h) (h2 : 0 ≤ n * (h + 2) ∧ n * (h + 2) ≤ 1152) : wpC EM (.fn (.func 69) [] []) [.agg [I a, I n, I h]] S fun r S' => r = I (n * (h + 2)) ∧ Grows S S' := by
  refine wpC_fn (b := Tryz.a69) rfl rfl ?_
  have H : Cx S [] S [] [] := Cx.enter (by simp)
  unfold Tryz.a69 Tryz.a69x0
  refine wp_box H rfl fun p S1 H => ?_
  refine wp_ldn (o := 0) (n := 3) (cs := [I a, I n, I h]) H (by repeat (first | exact List.Mem.head _ | apply List.Mem.tail)) rfl ?_
  refine wp_callV H (sizedM_ok (a := a) (n := n) (r := h)) fun S3 H => ?_
  rw [decide_eq_true h1]
  unfold mailP at h1
  refine wp_notT ?_
  try(refine zz ?_;(repeat constructor);intro _)
  refine wp_ld H (by repeat (first | exact List.Mem.head _ | apply List.Mem.tail)) rfl ?_
  try(refine zz ?_;(repeat constructor);intro _)
  refine wp_ld H (by repeat (first | exact List.Mem.head _ | apply List.Mem.tail)) rfl ?_
  refine wp_add64 (by omega) (by omega) ?_
  refine wp_mul64 (by omega) (by omega) ?_
  exact wp_ret ⟨rfl, rfl, H.grows⟩
theorem fitsM_ok (hk : 1 ≤ k ∧ k ≤ 4096) (h1 : mailP a n h) (h2 : 0 ≤ n * (h + 2) ∧ n * (h + 2) ≤ 1152) (h3 : 0 ≤ a ∧ a + n * (h + 2) ≤ k) (h4 : a < 4096) : wpC EM (.fn (.func 33) [] []) [.agg [I a, I n, I h], I k] S fun r S' => r = I 0 ∧ Grows S S' := by
  refine wpC_fn (b := Tryz.a33) rfl rfl ?_
  have H : Cx S [] S [] [] := Cx.enter (by simp)
  unfold Tryz.a33 Tryz.a33x2 Tryz.a33x1 Tryz.a33x0
  refine wp_box H rfl fun p S1 H => ?_
  refine wp_lss_f (by omega) ?_
  try(refine zz ?_;(repeat constructor);intro _)
  refine wp_gtr_f (by omega) ?_
  try(refine zz ?_;(repeat constructor);intro _)
  refine wp_ldn (o := 0) (n := 3) (cs := [I a, I n, I h]) H (by repeat (first | exact List.Mem.head _ | apply List.Mem.tail)) rfl ?_
  refine wp_callV H (placedM_ok (a := a) (n := n) (r := h)) fun S3 H => ?_
  rw [decide_eq_true (show mailQ a n h from ⟨h1, h3.1, h4⟩)]
  refine wp_notT ?_
  try(refine zz ?_;(repeat constructor);intro _)
  refine wp_ld H (by repeat (first | exact List.Mem.head _ | apply List.Mem.tail)) rfl ?_
  try(refine zz ?_;(repeat constructor);intro _)
  refine wp_ldn (o := 0) (n := 3) (cs := [I a, I n, I h]) H (by repeat (first | exact List.Mem.head _ | apply List.Mem.tail)) rfl ?_
  try(refine zz ?_;(repeat constructor);intro _)
  refine wp_callV H (sizeM_ok h1 h2) fun S4 H => ?_
  refine wp_gchk_t (wp_ck H (by repeat (first | exact List.Mem.head _ | apply List.Mem.tail)) rfl beq_num ?_)
  refine wp_gop_t (wp_sub64 (by omega) (by omega) ?_)
  refine wp_gop_t (wp_gtr_f (by omega) ?_)
  try(refine zz ?_;(repeat constructor);intro _)
  exact wp_ret ⟨rfl, rfl, H.grows⟩
theorem sizedJ_ok {c1 c2 c3 c4 : Int} (h1 : 1 ≤ n ∧ n ≤ 64) : wpC EM (.fn (.func 67) [] []) [.agg [I c1, I c2, I c3, I c4, I n]] S fun r S' => r = B true ∧ Grows S S' := by
  refine wpC_fn (b := Tryz.a67) rfl rfl ?_
  have H : Cx S [] S [] [] := Cx.enter (by simp)
  unfold Tryz.a67 Tryz.a67x0
  repeat' (first | (first|refine zA ?_|refine zB rfl ?_|refine zC ?_|refine zD ?_|refine zE rfl ?_|refine zF ?_|refine zG ?_|refine zH ?_|refine zI ?_|refine zJ ?_|refine zK ?_|refine zL rfl ?_|refine zN rfl ?_) | refine wp_bind ?_ | refine wp_box (by assumption) rfl fun _ _ _ => ?_ | refine wp_tmpN (by assumption) rfl rfl rfl fun _ _ _ => ?_ | refine wp_ld (by assumption) (by repeat (first | exact List.Mem.head _ | apply List.Mem.tail)) rfl ?_ | refine wp_ldn (by assumption) (by repeat (first | exact List.Mem.head _ | apply List.Mem.tail)) rfl ?_ | refine wp_notT ?_ | refine wp_notF ?_ | (refine wp_ret ?_; show wp EM _ _ _) | refine wp_lss (fun _ => ?_) (fun _ => ?_) | refine wp_gtr (fun _ => ?_) (fun _ => ?_) | refine wp_leq (fun _ => ?_) (fun _ => ?_) | refine wp_geq (fun _ => ?_) (fun _ => ?_) | refine wp_eql (fun _ => ?_) (fun _ => ?_) | refine wp_neq (fun _ => ?_) (fun _ => ?_) | refine wp_add64 (by omega) (by omega) ?_ | refine wp_sub64 (by omega) (by omega) ?_)
  all_goals first | (exfalso; omega) | exact wp_ret ⟨rfl, rfl, Cx.grows (by assumption)⟩
theorem sizedA_ok {c1 c2 c3 c4 c5 : Int} (h1 : 1 ≤ n ∧ n ≤ 4096) : wpC EM (.fn (.func 281) [] []) [.agg [I c1, I c2, I n, I c3, I c4, I c5]] S fun r S' => r = B true ∧ Grows S S' := by
  refine wpC_fn (b := Tryz.a281) rfl rfl ?_
  have H : Cx S [] S [] [] := Cx.enter (by simp)
  unfold Tryz.a281 Tryz.a281x0
  repeat' (first | (first|refine zA ?_|refine zB rfl ?_|refine zC ?_|refine zD ?_|refine zE rfl ?_|refine zF ?_|refine zG ?_|refine zH ?_|refine zI ?_|refine zJ ?_|refine zK ?_|refine zL rfl ?_|refine zN rfl ?_) | refine wp_bind ?_ | refine wp_box (by assumption) rfl fun _ _ _ => ?_ | refine wp_tmpN (by assumption) rfl rfl rfl fun _ _ _ => ?_ | refine wp_ld (by assumption) (by repeat (first | exact List.Mem.head _ | apply List.Mem.tail)) rfl ?_ | refine wp_ldn (by assumption) (by repeat (first | exact List.Mem.head _ | apply List.Mem.tail)) rfl ?_ | refine wp_notT ?_ | refine wp_notF ?_ | (refine wp_ret ?_; show wp EM _ _ _) | refine wp_lss (fun _ => ?_) (fun _ => ?_) | refine wp_gtr (fun _ => ?_) (fun _ => ?_) | refine wp_leq (fun _ => ?_) (fun _ => ?_) | refine wp_geq (fun _ => ?_) (fun _ => ?_) | refine wp_eql (fun _ => ?_) (fun _ => ?_) | refine wp_neq (fun _ => ?_) (fun _ => ?_) | refine wp_add64 (by omega) (by omega) ?_ | refine wp_sub64 (by omega) (by omega) ?_)
  all_goals first | (exfalso; omega) | exact wp_ret ⟨rfl, rfl, Cx.grows (by assumption)⟩
end
end Go.Abs
namespace Go.Abs
open Go.Proofs
set_option maxRecDepth 100000
set_option linter.unusedVariables false
/-! ### cells that are taken -/
section
variable {M : Mach} {B0 S : AH} {W : List Nat} {own : List Own} {ro : List Fct} {Q : Post} {k : AV → AC} {kc : AC}
theorem wp_litsG (H : Cx B0 W S own ro) {es n : Nat} {z : List AV} {ps : List (Nat × Nat × AV)} (l : List (List AV)) (he : fillP (repZero z n) ps = some l.flatten) (hn : l.length = n) (hz : z.length = es) (hes : ∀ x ∈ l, x.length = es)
    (h : ∀ v S1, Cx B0 W S1 (.sl v es l :: own) ro → wp M (k v) S1 Q) : wp M (.op (.bslice es n z ps) k) S Q := by
  have hf : l.flatten.length = n * es := by rw [flatten_length hes, hn]
  refine wp_op (v := .sl S.next 0 n n) (S1 := S.new (.row l.flatten)) ?_ (h _ _ (H.addOwn (Grows.new S _) (.inr ⟨S.next, 0, l.flatten, .inl ⟨n, by omega, by omega, by rw [hn]⟩, get_new_same _ _, ?_, hes⟩) ?_))
  · show nBslice es n z ps S = _
    unfold nBslice
    rw [he]
    have e : (Nat.beq (lenL l.flatten) (Nat.mul n es) && Nat.beq (lenL z) es) = true := by
      rw [lenL_eq, lenL_eq, hz, hf, show Nat.mul n es = n * es from rfl, Nat.beq_refl, Nat.beq_refl]; rfl
    simp only [e]
    rfl
  · rw [List.drop_zero, hn, ← hf, List.take_length]
  · intro id hid
    simp only [Own.ids, vids, List.mem_singleton] at hid
    subst hid
    exact ⟨Nat.le_refl _, by simp [AH.new]⟩
theorem ints_flat : ∀ (l : List Int), (ints l).flatten = l.map fun a => I a
  | [] => rfl
  | a :: l => by
    have := ints_flat l
    unfold ints at *
    rw [List.map_cons, List.flatten_cons, this]; rfl
theorem ints_one (l : List Int) : ∀ x ∈ ints l, x.length = 1 := by
  intro x hx
  unfold ints at hx
  obtain ⟨a, _, rfl⟩ := List.mem_map.1 hx; rfl
theorem ints_app (a b : List Int) : ints (a ++ b) = ints a ++ ints b := List.map_append ..
theorem ints_at {l : List Int} {i : Nat} {a : Int} (h : l[i]? = some a) : (ints l)[i]? = some [I a] := by unfold ints; rw [List.getElem?_map, h]; rfl
theorem wp_litsO (H : Cx B0 W S own ro) {n : Nat} {ps : List (Nat × Nat × AV)} (l : List Int) (he : fillP (repZero [I 0] n) ps = some (l.map fun a => I a)) (hn : l.length = n)
    (h : ∀ v S1, Cx B0 W S1 (.sl v 1 (ints l) :: own) ro → wp M (k v) S1 Q) : wp M (.op (.bslice 1 n [I 0] ps) k) S Q :=
  wp_litsG H (ints l) (by rw [ints_flat]; exact he) (by rw [ints_len]; exact hn) rfl (ints_one l) h
theorem wp_more (H : Cx B0 W S own ro) (j : Nat) {v : AV} {l : List Int} {n : Nat} {ps : List (Nat × Nat × AV)} (m : List Int) (hm : own[j]? = some (.sl v 1 (ints l))) (he : fillP (repZero [I 0] n) ps = some (m.map fun a => I a)) (hn : m.length = n) (hb : l.length + n ≤ 100000)
    (h : ∀ v1 S1, Cx B0 W S1 (own.set j (.sl v1 1 (ints (l ++ m)))) ro → wp M (k v1) S1 Q) : wp M (.op (.bslice 1 n [I 0] ps) fun x => .op (.append 1 8 v x) k) S Q := by
  refine wp_lits H m he hn fun x S1 H => ?_
  refine wp_appendR H j hm (List.Mem.head _) (ints_one m) ?_ ?_ fun v1 S2 H => ?_
  · rw [ints_len, ints_len, hn]; unfold maxBytes; omega
  · rw [ints_len, ints_len, hn]; unfold maxLenN; omega
  · rw [← ints_app] at H
    exact h v1 S2 H.tl
def tkl (n : Nat) (L : List Int) : List (List AV) := (List.range n).map fun (i : Nat) => [B (decide ((i : Int) ∈ L))]
theorem tkl_nil (n : Nat) : tkl n [] = List.replicate n [B false] := by
  unfold tkl
  refine List.ext_getElem? fun i => ?_
  rw [List.getElem?_map, List.getElem?_replicate]
  by_cases h : i < n
  · rw [if_pos h, List.getElem?_range h]; simp
  · rw [if_neg h, List.getElem?_eq_none (by simpa using h)]; rfl
theorem tkl_get {n i : Nat} {L : List Int} (h : i < n) : (tkl n L)[i]? = some [B (decide ((i : Int) ∈ L))] := by
  unfold tkl
  rw [List.getElem?_map, List.getElem?_range h]; rfl
theorem tkl_len (n : Nat) (L : List Int) : (tkl n L).length = n := by simp [tkl]
theorem tkl_set {n i : Nat} {L : List Int} (h : i < n) : (tkl n L).set i [B true] = tkl n (L ++ [(i : Int)]) := by
  refine List.ext_getElem? fun j => ?_
  rw [List.getElem?_set, tkl_len]
  by_cases hj : j < n
  · by_cases e : i = j
    · subst e
      rw [if_pos rfl, if_pos h, tkl_get h]; simp
    · rw [if_neg e, tkl_get hj, tkl_get hj]
      congr 3
      simp only [List.mem_append, List.mem_singleton]
      have : ¬ (j : Int) = (i : Int) := by omega
      simp [this]
  · rw [List.getElem?_eq_none (l := tkl n (L ++ [(i : Int)])) (by rw [tkl_len]; omega)]
    by_cases e : i = j
    · omega
    · rw [if_neg e, List.getElem?_eq_none (by rw [tkl_len]; omega)]
theorem wp_tk (H : Cx B0 W S own ro) (j : Nat) {v : AV} {n : Nat} {L : List Int} {a : Int} (hm : own[j]? = some (.sl v 1 (tkl n L))) (ha : 0 ≤ a ∧ a < n) (h : wp M (k (B (decide (a ∈ L)))) S Q) : wp M (.op (.saddr 1 v (I a)) fun p => .op (.load 1 false p) k) S Q := by
  obtain ⟨i, rfl⟩ : ∃ i : Nat, a = (i : Int) := ⟨a.toNat, by omega⟩
  refine wp_saddro H j hm (tkl_get (by omega)) fun id off hp => ?_
  exact wp_loadF0 hp h
theorem wp_tkset (H : Cx B0 W S own ro) (j : Nat) {v : AV} {n : Nat} {L : List Int} {a : Int} (hm : own[j]? = some (.sl v 1 (tkl n L))) (ha : 0 ≤ a ∧ a < n) (h : ∀ S1, Cx B0 W S1 (own.set j (.sl v 1 (tkl n (L ++ [a])))) ro → wp M kc S1 Q) : wp M (.op (.saddr 1 v (I a)) fun p => .op (.store 1 p (B true)) fun _ => kc) S Q := by
  obtain ⟨i, rfl⟩ : ∃ i : Nat, a = (i : Int) := ⟨a.toNat, by omega⟩
  refine wp_storeE (y := B true) (i := i) H j hm (by rw [tkl_len]; omega) rfl rfl fun S1 H => ?_
  refine h S1 ?_
  rw [← tkl_set (by omega)]
  exact H
theorem wp_tknew (H : Cx B0 W S own ro) {n : Nat} (hn : n ≤ 4096) (h : ∀ t S1, Cx B0 W S1 (.sl t 1 (tkl n []) :: own) ro → wp M (k t) S1 Q) : wp M (.op (.mkslice 1 1 [B false] (I (n : Int)) (I (n : Int))) k) S Q :=
  wp_mkslice1 H (by omega) (by omega) fun t S1 H => h t S1 (by rw [tkl_nil]; exact H)
end
/-! ### rows and pairs -/
def rwL (a : Int) (n : Nat) : List Int := (List.range n).map fun (i : Nat) => a + (i : Int)
def prL (a b : Int) (n : Nat) : List Int := (List.range n).flatMap fun (i : Nat) => [a + (i : Int), b + (i : Int)]
theorem rwL_succ (a : Int) (n : Nat) : rwL a (n + 1) = rwL a n ++ [a + (n : Nat)] := by simp [rwL, List.range_succ]
theorem prL_succ (a b : Int) (n : Nat) : prL a b (n + 1) = prL a b n ++ [a + (n : Nat), b + (n : Nat)] := by simp [prL, List.range_succ]
theorem mem_rwL {a x : Int} {n : Nat} : x ∈ rwL a n ↔ a ≤ x ∧ x < a + n := by
  unfold rwL
  rw [List.mem_map]
  constructor
  · rintro ⟨i, hi, rfl⟩
    have := List.mem_range.1 hi; omega
  · rintro ⟨h1, h2⟩
    exact ⟨(x - a).toNat, List.mem_range.2 (by omega), by omega⟩
theorem mem_prL {a b x : Int} {n : Nat} : x ∈ prL a b n ↔ (a ≤ x ∧ x < a + n) ∨ (b ≤ x ∧ x < b + n) := by
  unfold prL
  rw [List.mem_flatMap]
  constructor
  · rintro ⟨i, hi, h⟩
    have := List.mem_range.1 hi
    simp only [List.mem_cons, List.not_mem_nil, or_false] at h
    omega
  · rintro (⟨h1, h2⟩ | ⟨h1, h2⟩)
    · refine ⟨(x - a).toNat, List.mem_range.2 (by omega), ?_⟩
      simp only [List.mem_cons, List.not_mem_nil, or_false]; omega
    · refine ⟨(x - b).toNat, List.mem_range.2 (by omega), ?_⟩
      simp only [List.mem_cons, List.not_mem_nil, or_false]; omega
theorem rwL_nodup (a : Int) : ∀ n, (rwL a n).Nodup
  | 0 => by simp [rwL]
  | n + 1 => by
    rw [rwL_succ, List.nodup_append]
    refine ⟨rwL_nodup a n, by simp, fun x hx y hy => ?_⟩
    have := mem_rwL.1 hx
    rw [List.mem_singleton] at hy; omega
theorem prL_nodup {a b : Int} : ∀ {n N : Nat}, n ≤ N → a + N ≤ b → (prL a b n).Nodup
  | 0, _, _, _ => by simp [prL]
  | n + 1, N, h, hb => by
    rw [prL_succ, List.nodup_append]
    refine ⟨prL_nodup (by omega : n ≤ N) hb, ?_, fun x hx y hy => ?_⟩
    · simp; omega
    · have := mem_prL.1 hx
      simp only [List.mem_cons, List.not_mem_nil, or_false] at hy; omega
theorem rwL_len (a : Int) (n : Nat) : (rwL a n).length = n := by simp [rwL]
theorem prL_len (a b : Int) (n : Nat) : (prL a b n).length = 2 * n := by
  induction n with
  | zero => rfl
  | succ n ih => rw [prL_succ, List.length_append, ih]; simp; omega
end Go.Abs
namespace Go.Abs
open Go.Proofs
set_option maxRecDepth 100000
set_option linter.unusedVariables false
/-! ### towers: what fits -/
def toL (N C h : Nat) (lim : Int) : To := { nd := 6 + 2 * N + C + h, hd := 6 + 2 * N + C, ht := h, ftop := 0, flinks := 1, fsize := N, gens := 1 + N, worn := 1 + 2 * N, lim := lim, eat := 2 + 2 * N, pins := 3 + 2 * N, cores := C, tops := 3 + 2 * N + C }
def To.lb (t : To) : List AV := [I t.ftop, I t.flinks, I t.fsize, I t.gens, I t.worn, I t.lim, I t.eat, I t.pins, I t.cores, I t.tops]
def To.ab (t : To) : List AV := [I t.ftop, I t.flinks, I t.fsize, I t.gens, I t.worn, I t.lim]
def oth6 (N C : Nat) : List Int := [0, 1 + 2 * N, 2 + 2 * N, 3 + 2 * N + C, 3 + 2 * N + C + 1, 3 + 2 * N + C + 2]
def oth (N C : Nat) : List Int := oth6 N C ++ prL 1 (1 + N) N ++ rwL (3 + 2 * N) C
theorem nd_take {L : List Int} (h : L.Nodup) {i : Nat} {a : Int} (ha : L[i]? = some a) : a ∉ L.take i := by
  obtain ⟨hi, rfl⟩ := List.getElem?_eq_some_iff.1 ha
  have e : L = L.take i ++ L[i] :: L.drop (i + 1) := by rw [List.getElem_cons_drop, List.take_append_drop]
  rw [e, List.nodup_append] at h
  intro hm
  exact h.2.2 _ hm _ (List.mem_cons_self ..) rfl
theorem take_snoc {L : List Int} {i : Nat} {a : Int} (ha : L[i]? = some a) : L.take (i + 1) = L.take i ++ [a] := by rw [List.take_add_one, ha]; rfl
theorem mem_oth6 {N C : Nat} {x : Int} : x ∈ oth6 N C ↔ x = 0 ∨ x = 1 + 2 * N ∨ x = 2 + 2 * N ∨ x = 3 + 2 * N + C ∨ x = 3 + 2 * N + C + 1 ∨ x = 3 + 2 * N + C + 2 := by
  unfold oth6
  simp only [List.mem_cons, List.not_mem_nil, or_false]
theorem mem_oth {N C : Nat} {x : Int} (h : x ∈ oth N C) : 0 ≤ x ∧ x < 6 + 2 * N + C := by
  unfold oth at h
  simp only [List.mem_append, mem_oth6, mem_prL, mem_rwL] at h
  omega
theorem oth_nodup (N C : Nat) : (oth N C).Nodup := by
  unfold oth
  rw [List.nodup_append, List.nodup_append]
  refine ⟨⟨?_, prL_nodup (Nat.le_refl _) (by omega), fun x hx y hy => ?_⟩, rwL_nodup _ _, fun x hx y hy => ?_⟩
  · unfold oth6
    simp only [List.nodup_cons, List.mem_cons, List.not_mem_nil, or_false, List.nodup_nil, not_false_eq_true, and_true]
    omega
  · have h1 := mem_oth6.1 hx
    have h2 := mem_prL.1 hy
    omega
  · have h2 := mem_rwL.1 hy
    rcases List.mem_append.1 hx with hx | hx
    · have h1 := mem_oth6.1 hx
      omega
    · have h1 := mem_prL.1 hx
      omega
theorem oth_len (N C : Nat) : (oth N C).length = 6 + 2 * N + C := by
  unfold oth
  rw [List.length_append, List.length_append, prL_len, rwL_len]; rfl
section
variable {B0 S : AH} {W : List Nat} {own : List Own} {ro : List Fct} {Q : Post} {k : AV → AC} {N C h K : Nat} {lim : Int}
theorem others_ok (hN : N ≤ 128) (hC : C ≤ 64) (H : Cx B0 W S own ro) : wpC EM (.fn (.func 63) [] []) [.agg (toL N C h lim).lb] S fun r S' => Cx B0 W S' (.sl r 1 (ints (oth N C)) :: own) ro := by
  refine wpC_fn (b := Tryz.a63) rfl rfl ?_
  unfold Tryz.a63 Tryz.a63x11 Tryz.a63x10 Tryz.a63x9 Tryz.a63x8 Tryz.a63x7 Tryz.a63x6 Tryz.a63x5 Tryz.a63x4 Tryz.a63x3 Tryz.a63x2 Tryz.a63x1 Tryz.a63x0
  refine wp_box H rfl fun p S1 H => ?_
  have H : Cx B0 W S1 own (.pt p 0 (toL N C h lim).lb :: ro) := H
  have mp : Fct.pt p 0 (toL N C h lim).lb ∈ (.pt p 0 (toL N C h lim).lb :: ro) := List.Mem.head _
  try(refine zz ?_;(repeat constructor);intro _)
  refine wp_ld (o := 0) H mp rfl ?_
  try(refine zz ?_;(repeat constructor);intro _)
  refine wp_ld (o := 4) H mp rfl ?_
  try(refine zz ?_;(repeat constructor);intro _)
  refine wp_ld (o := 6) H mp rfl ?_
  try(refine zz ?_;(repeat constructor);intro _)
  refine wp_ld (o := 9) H mp rfl ?_
  try(refine zz ?_;(repeat constructor);intro _)
  refine wp_ld (o := 9) H mp rfl ?_
  refine wp_add64 (by show _ ≤ (3 + 2 * (N : Int) + C + 1 : Int); omega) (by show (3 + 2 * (N : Int) + C + 1 : Int) ≤ _; omega) ?_
  try(refine zz ?_;(repeat constructor);intro _)
  refine wp_ld (o := 9) H mp rfl ?_
  refine wp_add64 (by show _ ≤ (3 + 2 * (N : Int) + C + 2 : Int); omega) (by show (3 + 2 * (N : Int) + C + 2 : Int) ≤ _; omega) ?_
  refine wp_litsO H (oth6 N C) rfl rfl fun v S2 H => ?_
  try(refine zz ?_;(repeat constructor);intro _)
  refine wp_ld (o := 2) H mp rfl ?_
  refine wp_bind (wp_loop (wpL_for N (fun i vs S' => ∃ v, vs = [I (i : Int), v] ∧ Cx B0 W S' (.sl v 1 (ints (oth6 N C ++ prL 1 (1 + N) i)) :: own) (.pt p 0 (toL N C h lim).lb :: ro)) ?_ ?_ ⟨v, rfl, by rw [show prL 1 (1 + N) 0 = [] from rfl, List.append_nil]; exact H⟩))
  · rintro i vs S3 hi ⟨v, rfl, H⟩
    refine wp_lss_t (by show (i : Int) < (N : Int); omega) ?_
    try(refine zz ?_;(repeat constructor);intro _)
    refine wp_bind ?_
    try(refine zz ?_;(repeat constructor);intro _)
    refine wp_ld (o := 1) H mp rfl ?_
    refine wp_add64 (by show _ ≤ (1 + (i : Int) : Int); omega) (by show (1 + (i : Int) : Int) ≤ _; omega) ?_
    try(refine zz ?_;(repeat constructor);intro _)
    refine wp_ld (o := 3) H mp rfl ?_
    refine wp_add64 (by show _ ≤ (1 + (N : Int) + i : Int); omega) (by show (1 + (N : Int) + i : Int) ≤ _; omega) ?_
    refine wp_more H 0 [1 + (i : Int), 1 + (N : Int) + i] rfl rfl rfl (by rw [List.length_append, prL_len]; show 6 + _ + 2 ≤ _; omega) fun v1 S4 H => ?_
    refine wp_ret ?_
    show wp EM _ _ _
    refine wp_add64 (by omega) (by omega) ?_
    refine wp_ret (.inl ⟨rfl, v1, rfl, ?_⟩)
    rw [prL_succ, ← List.append_assoc]
    exact H
  rintro vs S3 ⟨v, rfl, H⟩
  refine wp_lss_f (by show (N : Int) ≤ (N : Int); omega) ?_
  try(refine zz ?_;(repeat constructor);intro _)
  refine wp_ret ⟨by simp, ?_⟩
  show wp EM _ _ _
  try(refine zz ?_;(repeat constructor);intro _)
  refine wp_ld (o := 8) H mp rfl ?_
  refine wp_bind (wp_loop (wpL_for C (fun i vs S' => ∃ v, vs = [I (i : Int), v] ∧ Cx B0 W S' (.sl v 1 (ints (oth6 N C ++ prL 1 (1 + N) N ++ rwL (3 + 2 * N) i)) :: own) (.pt p 0 (toL N C h lim).lb :: ro)) ?_ ?_ ⟨v, rfl, by rw [show rwL (3 + 2 * N) 0 = [] from rfl, List.append_nil]; exact H⟩))
  · rintro i vs S3 hi ⟨v, rfl, H⟩
    refine wp_lss_t (by show (i : Int) < (C : Int); omega) ?_
    try(refine zz ?_;(repeat constructor);intro _)
    refine wp_bind ?_
    try(refine zz ?_;(repeat constructor);intro _)
    refine wp_ld (o := 7) H mp rfl ?_
    refine wp_add64 (by show _ ≤ (3 + 2 * (N : Int) + i : Int); omega) (by show (3 + 2 * (N : Int) + i : Int) ≤ _; omega) ?_
    refine wp_more H 0 [3 + 2 * (N : Int) + i] rfl rfl rfl (by rw [List.length_append, List.length_append, prL_len, rwL_len]; show 6 + _ + _ + 1 ≤ _; omega) fun v1 S4 H => ?_
    refine wp_ret ?_
    show wp EM _ _ _
    refine wp_add64 (by omega) (by omega) ?_
    refine wp_ret (.inl ⟨rfl, v1, rfl, ?_⟩)
    rw [rwL_succ, ← List.append_assoc]
    exact H
  rintro vs S3 ⟨v, rfl, H⟩
  refine wp_lss_f (by show (C : Int) ≤ (C : Int); omega) ?_
  try(refine zz ?_;(repeat constructor);intro _)
  refine wp_ret ⟨by simp, ?_⟩
  show wp EM _ _ _
  exact wp_ret ⟨rfl, H.tl⟩
theorem held_ok (hN : N ≤ 128) (hC : C ≤ 64) (H : Cx B0 W S own ro) : wpC EM (.fn (.func 142) [] []) [.agg (toL N C h lim).lb] S fun r S' => Cx B0 W S' (.sl r 1 (ints (oth N C)) :: own) ro := by
  refine wpC_fn (b := Tryz.a142) rfl rfl ?_
  unfold Tryz.a142 Tryz.a142x11 Tryz.a142x10 Tryz.a142x9 Tryz.a142x8 Tryz.a142x7 Tryz.a142x6 Tryz.a142x5 Tryz.a142x4 Tryz.a142x3 Tryz.a142x2 Tryz.a142x1 Tryz.a142x0
  refine wp_box H rfl fun p S1 H => ?_
  have H : Cx B0 W S1 own (.pt p 0 (toL N C h lim).lb :: ro) := H
  have mp : Fct.pt p 0 (toL N C h lim).lb ∈ (.pt p 0 (toL N C h lim).lb :: ro) := List.Mem.head _
  try(refine zz ?_;(repeat constructor);intro _)
  refine wp_ld (o := 0) H mp rfl ?_
  try(refine zz ?_;(repeat constructor);intro _)
  refine wp_ld (o := 4) H mp rfl ?_
  try(refine zz ?_;(repeat constructor);intro _)
  refine wp_ld (o := 6) H mp rfl ?_
  try(refine zz ?_;(repeat constructor);intro _)
  refine wp_ld (o := 9) H mp rfl ?_
  try(refine zz ?_;(repeat constructor);intro _)
  refine wp_ld (o := 9) H mp rfl ?_
  refine wp_add64 (by show _ ≤ (3 + 2 * (N : Int) + C + 1 : Int); omega) (by show (3 + 2 * (N : Int) + C + 1 : Int) ≤ _; omega) ?_
  try(refine zz ?_;(repeat constructor);intro _)
  refine wp_ld (o := 9) H mp rfl ?_
  refine wp_add64 (by show _ ≤ (3 + 2 * (N : Int) + C + 2 : Int); omega) (by show (3 + 2 * (N : Int) + C + 2 : Int) ≤ _; omega) ?_
  refine wp_litsO H (oth6 N C) rfl rfl fun v S2 H => ?_
  try(refine zz ?_;(repeat constructor);intro _)
  refine wp_ld (o := 2) H mp rfl ?_
  refine wp_bind (wp_loop (wpL_for N (fun i vs S' => ∃ v, vs = [I (i : Int), v] ∧ Cx B0 W S' (.sl v 1 (ints (oth6 N C ++ prL 1 (1 + N) i)) :: own) (.pt p 0 (toL N C h lim).lb :: ro)) ?_ ?_ ⟨v, rfl, by rw [show prL 1 (1 + N) 0 = [] from rfl, List.append_nil]; exact H⟩))
  · rintro i vs S3 hi ⟨v, rfl, H⟩
    refine wp_lss_t (by show (i : Int) < (N : Int); omega) ?_
    try(refine zz ?_;(repeat constructor);intro _)
    refine wp_bind ?_
    try(refine zz ?_;(repeat constructor);intro _)
    refine wp_ld (o := 1) H mp rfl ?_
    refine wp_add64 (by show _ ≤ (1 + (i : Int) : Int); omega) (by show (1 + (i : Int) : Int) ≤ _; omega) ?_
    try(refine zz ?_;(repeat constructor);intro _)
    refine wp_ld (o := 3) H mp rfl ?_
    refine wp_add64 (by show _ ≤ (1 + (N : Int) + i : Int); omega) (by show (1 + (N : Int) + i : Int) ≤ _; omega) ?_
    refine wp_more H 0 [1 + (i : Int), 1 + (N : Int) + i] rfl rfl rfl (by rw [List.length_append, prL_len]; show 6 + _ + 2 ≤ _; omega) fun v1 S4 H => ?_
    refine wp_ret ?_
    show wp EM _ _ _
    refine wp_add64 (by omega) (by omega) ?_
    refine wp_ret (.inl ⟨rfl, v1, rfl, ?_⟩)
    rw [prL_succ, ← List.append_assoc]
    exact H
  rintro vs S3 ⟨v, rfl, H⟩
  refine wp_lss_f (by show (N : Int) ≤ (N : Int); omega) ?_
  try(refine zz ?_;(repeat constructor);intro _)
  refine wp_ret ⟨by simp, ?_⟩
  show wp EM _ _ _
  try(refine zz ?_;(repeat constructor);intro _)
  refine wp_ld (o := 8) H mp rfl ?_
  refine wp_bind (wp_loop (wpL_for C (fun i vs S' => ∃ v, vs = [I (i : Int), v] ∧ Cx B0 W S' (.sl v 1 (ints (oth6 N C ++ prL 1 (1 + N) N ++ rwL (3 + 2 * N) i)) :: own) (.pt p 0 (toL N C h lim).lb :: ro)) ?_ ?_ ⟨v, rfl, by rw [show rwL (3 + 2 * N) 0 = [] from rfl, List.append_nil]; exact H⟩))
  · rintro i vs S3 hi ⟨v, rfl, H⟩
    refine wp_lss_t (by show (i : Int) < (C : Int); omega) ?_
    try(refine zz ?_;(repeat constructor);intro _)
    refine wp_bind ?_
    try(refine zz ?_;(repeat constructor);intro _)
    refine wp_ld (o := 7) H mp rfl ?_
    refine wp_add64 (by show _ ≤ (3 + 2 * (N : Int) + i : Int); omega) (by show (3 + 2 * (N : Int) + i : Int) ≤ _; omega) ?_
    refine wp_more H 0 [3 + 2 * (N : Int) + i] rfl rfl rfl (by rw [List.length_append, List.length_append, prL_len, rwL_len]; show 6 + _ + _ + 1 ≤ _; omega) fun v1 S4 H => ?_
    refine wp_ret ?_
    show wp EM _ _ _
    refine wp_add64 (by omega) (by omega) ?_
    refine wp_ret (.inl ⟨rfl, v1, rfl, ?_⟩)
    rw [rwL_succ, ← List.append_assoc]
    exact H
  rintro vs S3 ⟨v, rfl, H⟩
  refine wp_lss_f (by show (C : Int) ≤ (C : Int); omega) ?_
  try(refine zz ?_;(repeat constructor);intro _)
  refine wp_ret ⟨by simp, ?_⟩
  show wp EM _ _ _
  exact wp_ret ⟨rfl, H.tl⟩
end
end Go.Abs
namespace Go.Abs
open Go.Proofs
set_option maxRecDepth 100000
set_option linter.unusedVariables false
section
variable {B0 S : AH} {W : List Nat} {own : List Own} {ro : List Fct} {Q : Post} {k : AV → AC} {N C h K : Nat} {lim : Int}
/-! ### rows that are counted -/
def cnF (q p2 p1 : Nat) : AV := .fn (.func 280) [] [.ptr q 0, .ptr p2 0, .ptr p1 0]
theorem counted_ok {a n : Int} (H : Cx B0 W S own ro) : wpC EM (.fn (.func 224) [] []) [I a, I n] S fun r S' => ∃ q p2 p1, r = cnF q p2 p1 ∧ Cx B0 W S' (.obj q (.row [I 0]) :: own) (.pt p2 0 [I n] :: .pt p1 0 [I a] :: ro) := by
  refine wpC_fn (b := Tryz.a224) rfl rfl ?_
  unfold Tryz.a224
  refine wp_box H rfl fun p1 S1 H => ?_
  refine wp_box H rfl fun p2 S2 H => ?_
  refine wp_alloc H fun q S3 H => ?_
  refine wp_set1 (j := 0) H 0 rfl (by simp) ⟨rfl, rfl⟩ fun S4 H => ?_
  exact wp_ret ⟨rfl, q, p2, p1, rfl, H⟩
theorem cn_ok {a n c : Int} {q p2 p1 : Nat} (j : Nat) (hq : own[j]? = some (.obj q (.row [I c]))) (h2 : Fct.pt p2 0 [I n] ∈ ro) (h1 : Fct.pt p1 0 [I a] ∈ ro) (hb : 0 ≤ c ∧ c ≤ 4096 ∧ 0 ≤ a ∧ a ≤ 4096) (H : Cx B0 W S own ro) : wpC EM (cnF q p2 p1) [] S fun r S' => r = (if c < n then I (a + c) else I (-1)) ∧ Cx B0 W S' (own.set j (.obj q (.row [I (if c < n then c + 1 else c)]))) ro := by
  refine wpC_fn (b := Tryz.a280) rfl rfl ?_
  unfold Tryz.a280 Tryz.a280x0
  refine wp_row (j := 0) H j hq rfl ?_
  refine wp_ld (o := 0) H h2 rfl ?_
  refine wp_geq (fun h0 => ?_) (fun h0 => ?_)
  · try(refine zz ?_;(repeat constructor);intro _)
    refine wp_ret ⟨rfl, by rw [if_neg (by omega)]; rfl, ?_⟩
    rw [if_neg (by omega), list_set_self hq]; exact H
  · try(refine zz ?_;(repeat constructor);intro _)
    refine wp_row (j := 0) H j hq rfl ?_
    refine wp_add64 (by omega) (by omega) ?_
    refine wp_set1 (j := 0) H j hq (by simp) ⟨rfl, rfl⟩ fun S4 H => ?_
    have hj : j < own.length := (List.getElem?_eq_some_iff.1 hq).1
    have hq' : (own.set j (.obj q (.row ([I c].set 0 (I (c + 1))))))[j]? = some (.obj q (.row [I (c + 1)])) := by rw [List.getElem?_set]; simp [hj]
    refine wp_ld (o := 0) H h1 rfl ?_
    refine wp_row (j := 0) H j hq' rfl ?_
    refine wp_add64 (by omega) (by omega) ?_
    refine wp_sub64 (by omega) (by omega) ?_
    refine wp_ret ⟨rfl, ?_, ?_⟩
    · rw [if_pos (by omega), show a + (c + 1) - 1 = a + c by omega]; rfl
    · rw [if_pos (by omega)]; exact H
theorem round_ok {t : AV} {L : List Int} {a : Int} {n : Nat} {q p2 p1 : Nat} {vs : List AV} (hK : K ≤ 4096) (ha : 0 ≤ a ∧ a + n ≤ K) (hd : ∀ z ∈ L, z < a ∨ a + n ≤ z) (h2 : Fct.pt p2 0 [I (n : Int)] ∈ ro) (h1 : Fct.pt p1 0 [I a] ∈ ro)
    (H : Cx B0 W S (.sl t 1 (tkl K L) :: .obj q (.row [I 0]) :: own) ro) (hQ : ∀ S' u, Cx B0 W S' (.sl t 1 (tkl K (L ++ rwL a n)) :: .obj q (.row [I n]) :: own) ro → Q .normal [u, I (-1)] S') :
    wp EM (.call (cnF q p2 p1) [] fun v68 => Tryz.a140x3 t vs (cnF q p2 p1) v68) S Q := by
  unfold Tryz.a140x3 Tryz.a140x2 Tryz.a140x1 Tryz.a140x0
  refine wp_call (wpC_mono (cn_ok 1 rfl h2 h1 ⟨by omega, by omega, by omega, by omega⟩ H) fun r S1 qq => ?_)
  obtain ⟨rfl, H⟩ := qq
  refine wp_bind (wp_loop (wpL_for n (fun i vs S' => ∃ u, vs = [if i < n then I (a + (i : Int)) else I (-1), u] ∧ Cx B0 W S' (.sl t 1 (tkl K (L ++ rwL a i)) :: .obj q (.row [I (if i < n then ((i : Int) + 1) else i)]) :: own) ro) ?_ ?_ ?_))
  · rintro i vs S2 hi ⟨u, rfl, H⟩
    rw [if_pos hi] at H ⊢
    refine wp_geq_t (by omega) ?_
    try(refine zz ?_;(repeat constructor);intro _)
    refine wp_bind ?_
    refine wp_tk H 0 rfl (by omega) ?_
    rw [decide_eq_false (fun hm => by
      rcases List.mem_append.1 hm with hm | hm
      · have := hd _ hm; omega
      · have := mem_rwL.1 hm; omega)]
    try(refine zz ?_;(repeat constructor);intro _)
    refine wp_tkset H 0 rfl (by omega) fun S3 H => ?_
    refine wp_ret ?_
    show wp EM _ _ _
    refine wp_call (wpC_mono (cn_ok (c := (i : Int) + 1) 1 rfl h2 h1 ⟨by omega, by omega, by omega, by omega⟩ H) fun r S4 qq => ?_)
    obtain ⟨rfl, H⟩ := qq
    refine wp_ret (.inl ⟨rfl, u, ?_, ?_⟩)
    · by_cases e : i + 1 < n
      · rw [if_pos e, if_pos (by omega)]; rfl
      · rw [if_neg e, if_neg (by omega)]; rfl
    · have e2 : (if ((i : Int) + 1) < (n : Int) then ((i : Int) + 1 + 1) else ((i : Int) + 1)) = (if i + 1 < n then (((i + 1 : Nat) : Int) + 1) else ((i + 1 : Nat) : Int)) := by
        by_cases e : i + 1 < n
        · rw [if_pos e, if_pos (by omega)]; omega
        · rw [if_neg e, if_neg (by omega)]; omega
      rw [← e2, rwL_succ, ← List.append_assoc]
      exact H
  · rintro vs S2 ⟨u, rfl, H⟩
    rw [if_neg (by omega)] at H ⊢
    refine wp_geq_f (by omega) ?_
    try(refine zz ?_;(repeat constructor);intro _)
    refine wp_ret ⟨by simp, ?_⟩
    show wp EM _ _ _
    exact wp_ret (hQ _ _ H)
  · refine ⟨nth vs 1, ?_, ?_⟩
    · by_cases e : 0 < n
      · rw [if_pos e, if_pos (by omega)]; rfl
      · rw [if_neg e, if_neg (by omega)]
    · rw [show rwL a 0 = [] from rfl, List.append_nil]
      have e2 : (if (0 : Int) < (n : Int) then (0 : Int) + 1 else 0) = (if 0 < n then (((0 : Nat) : Int) + 1) else ((0 : Nat) : Int)) := by
        by_cases e : 0 < n
        · rw [if_pos e, if_pos (by omega)]; rfl
        · rw [if_neg e, if_neg (by omega)]; rfl
      rw [← e2]
      exact H
theorem fitsA_ok (hN : 1 ≤ N ∧ N ≤ 128) (hl : 1 ≤ lim ∧ lim ≤ 4294967295) (hK : 2 + 2 * N ≤ K ∧ K ≤ 4096) (H : Cx B0 W S own ro) : wpC EM (.fn (.func 140) [] []) [.agg (toL N C h lim).ab, I (K : Int)] S fun r S' => r = I 0 ∧ Cx B0 W S' own ro := by
  refine wpC_fn (b := Tryz.a140) rfl rfl ?_
  have hr := fun {S own ro} {t : AV} {L : List Int} {a : Int} {n : Nat} {q p2 p1 : Nat} {vs : List AV} {Q : Post} => round_ok (B0 := B0) (W := W) (S := S) (own := own) (ro := ro) (K := K) (t := t) (L := L) (a := a) (n := n) (q := q) (p2 := p2) (p1 := p1) (vs := vs) (Q := Q)
  unfold Tryz.a140x3 Tryz.a140x2 Tryz.a140x1 Tryz.a140x0 at hr
  unfold Tryz.a140 Tryz.a140x16 Tryz.a140x15 Tryz.a140x14 Tryz.a140x13 Tryz.a140x12 Tryz.a140x11 Tryz.a140x10 Tryz.a140x9 Tryz.a140x8 Tryz.a140x7 Tryz.a140x6 Tryz.a140x5 Tryz.a140x4 Tryz.a140x3 Tryz.a140x2 Tryz.a140x1 Tryz.a140x0
  refine wp_box H rfl fun p S1 H => ?_
  have H : Cx B0 W S1 own (.pt p 0 (toL N C h lim).ab :: ro) := H
  have mp : Fct.pt p 0 (toL N C h lim).ab ∈ (.pt p 0 (toL N C h lim).ab :: ro) := List.Mem.head _
  refine wp_lss_f (by omega) ?_
  try(refine zz ?_;(repeat constructor);intro _)
  refine wp_gtr_f (by omega) ?_
  try(refine zz ?_;(repeat constructor);intro _)
  refine wp_ldn (o := 0) (n := 3) H mp rfl ?_
  refine wp_callV H (fitsS_ok (a := 0) (b := 1) (n := N) (k := K) (by omega) (by omega) (by omega) (by omega) (by omega)) fun S2 H => ?_
  refine wp_neq_f (by omega) ?_
  try(refine zz ?_;(repeat constructor);intro _)
  refine wp_ld (o := 5) H mp rfl ?_
  refine wp_gop_t (wp_lss_f (by show 1 ≤ lim; omega) ?_)
  try(refine zz ?_;(repeat constructor);intro _)
  refine wp_ld (o := 5) H mp rfl ?_
  refine wp_gop_t (wp_gtr_f (by show lim ≤ 4294967295; omega) ?_)
  try(refine zz ?_;(repeat constructor);intro _)
  refine wp_ld (o := 3) H mp rfl ?_
  refine wp_gop_t (wp_lss_f (by show (0 : Int) ≤ 1 + N; omega) ?_)
  try(refine zz ?_;(repeat constructor);intro _)
  refine wp_ld (o := 3) H mp rfl ?_
  try(refine zz ?_;(repeat constructor);intro _)
  refine wp_ld (o := 2) H mp rfl ?_
  refine wp_gop_t (wp_sub64 (by show _ ≤ (K : Int) - N; omega) (by show (K : Int) - N ≤ _; omega) ?_)
  refine wp_gop_t (wp_gtr_f (by show (1 + N : Int) ≤ (K : Int) - N; omega) ?_)
  try(refine zz ?_;(repeat constructor);intro _)
  refine wp_ld (o := 4) H mp rfl ?_
  refine wp_gop_t (wp_lss_f (by show (0 : Int) ≤ 1 + 2 * N; omega) ?_)
  try(refine zz ?_;(repeat constructor);intro _)
  refine wp_ld (o := 4) H mp rfl ?_
  try(refine zz ?_;(repeat constructor);intro _)
  refine wp_geq_f (by show (1 + 2 * N : Int) < K; omega) ?_
  try(refine zz ?_;(repeat constructor);intro _)
  refine wp_tknew H (by omega) fun t S3 H => ?_
  try(refine zz ?_;(repeat constructor);intro _)
  refine wp_ld (o := 0) H mp rfl ?_
  refine wp_tkset H 0 rfl (by show (0 : Int) ≤ 0 ∧ (0 : Int) < K; omega) fun S4 H => ?_
  have H : Cx B0 W S4 (.sl t 1 (tkl K ([0] : List Int)) :: own) (.pt p 0 (toL N C h lim).ab :: ro) := H
  try(refine zz ?_;(repeat constructor);intro _)
  refine wp_ld (o := 1) H mp rfl ?_
  try(refine zz ?_;(repeat constructor);intro _)
  refine wp_ld (o := 2) H mp rfl ?_
  try(refine zz ?_;(repeat constructor);intro _)
  refine wp_ld (o := 3) H mp rfl ?_
  try(refine zz ?_;(repeat constructor);intro _)
  refine wp_ld (o := 2) H mp rfl ?_
  try(refine zz ?_;(repeat constructor);intro _)
  refine wp_ld (o := 4) H mp rfl ?_
  refine wp_call (wpC_mono (counted_ok H) fun r S5 qq => ?_)
  obtain ⟨q0, p02, p01, rfl, H⟩ := qq
  have mp : Fct.pt p 0 (toL N C h lim).ab ∈ (.pt p02 0 [I ((N : Nat) : Int)] :: .pt p01 0 [I 1] :: .pt p 0 (toL N C h lim).ab :: ro) := by repeat (first | exact List.Mem.head _ | apply List.Mem.tail)
  refine wp_ck (o := 3) H mp rfl beq_num ?_
  refine wp_ck (o := 2) H mp rfl beq_num ?_
  refine wp_ck (o := 4) H mp rfl beq_num ?_
  refine wp_call (wpC_mono (counted_ok H) fun r S6 qq => ?_)
  obtain ⟨q1, p12, p11, rfl, H⟩ := qq
  have mp : Fct.pt p 0 (toL N C h lim).ab ∈ (.pt p12 0 [I ((N : Nat) : Int)] :: .pt p11 0 [I (1 + (N : Int))] :: .pt p02 0 [I ((N : Nat) : Int)] :: .pt p01 0 [I 1] :: .pt p 0 (toL N C h lim).ab :: ro) := by repeat (first | exact List.Mem.head _ | apply List.Mem.tail)
  refine wp_ck (o := 4) H mp rfl beq_num ?_
  refine wp_call (wpC_mono (counted_ok H) fun r S7 qq => ?_)
  obtain ⟨q2, p22, p21, rfl, H⟩ := qq
  have H : Cx B0 W S7 (.obj q2 (.row [I 0]) :: .obj q1 (.row [I 0]) :: .obj q0 (.row [I 0]) :: .sl t 1 (tkl K ([0] : List Int)) :: own) (.pt p22 0 [I 1] :: .pt p21 0 [I (1 + 2 * (N : Int))] :: .pt p12 0 [I ((N : Nat) : Int)] :: .pt p11 0 [I (1 + (N : Int))] :: .pt p02 0 [I ((N : Nat) : Int)] :: .pt p01 0 [I 1] :: .pt p 0 (toL N C h lim).ab :: ro) := H
  refine wp_litsG H [[cnF q0 p02 p01], [cnF q1 p12 p11], [cnF q2 p22 p21]] rfl rfl rfl (by simp) fun v S8 H => ?_
  have H := H.toRo (i := 0) rfl
  have H : Cx B0 W S8 (.obj q2 (.row [I 0]) :: .obj q1 (.row [I 0]) :: .obj q0 (.row [I 0]) :: .sl t 1 (tkl K ([0] : List Int)) :: own) (.sl v 1 [[cnF q0 p02 p01], [cnF q1 p12 p11], [cnF q2 p22 p21]] :: .pt p22 0 [I 1] :: .pt p21 0 [I (1 + 2 * (N : Int))] :: .pt p12 0 [I ((N : Nat) : Int)] :: .pt p11 0 [I (1 + (N : Int))] :: .pt p02 0 [I ((N : Nat) : Int)] :: .pt p01 0 [I 1] :: .pt p 0 (toL N C h lim).ab :: ro) := H
  have back : ∀ {S own}, Cx B0 W S own (.sl v 1 [[cnF q0 p02 p01], [cnF q1 p12 p11], [cnF q2 p22 p21]] :: .pt p22 0 [I 1] :: .pt p21 0 [I (1 + 2 * (N : Int))] :: .pt p12 0 [I ((N : Nat) : Int)] :: .pt p11 0 [I (1 + (N : Int))] :: .pt p02 0 [I ((N : Nat) : Int)] :: .pt p01 0 [I 1] :: .pt p 0 (toL N C h lim).ab :: ro) → Cx B0 W S own ro := fun H => H.tl.tl.tl.tl.tl.tl.tl.tl
  refine wp_len H (List.Mem.head _) ?_
  generalize hro : (.sl v 1 [[cnF q0 p02 p01], [cnF q1 p12 p11], [cnF q2 p22 p21]] :: .pt p22 0 [I 1] :: .pt p21 0 [I (1 + 2 * (N : Int))] :: .pt p12 0 [I ((N : Nat) : Int)] :: .pt p11 0 [I (1 + (N : Int))] :: .pt p02 0 [I ((N : Nat) : Int)] :: .pt p01 0 [I 1] :: .pt p 0 (toL N C h lim).ab :: ro) = ro1 at H back
  have mv : Fct.sl v 1 [[cnF q0 p02 p01], [cnF q1 p12 p11], [cnF q2 p22 p21]] ∈ ro1 := by rw [← hro]; exact List.Mem.head _
  have m02 : Fct.pt p02 0 [I ((N : Nat) : Int)] ∈ ro1 := by rw [← hro]; (repeat (first | exact List.Mem.head _ | apply List.Mem.tail))
  have m01 : Fct.pt p01 0 [I 1] ∈ ro1 := by rw [← hro]; (repeat (first | exact List.Mem.head _ | apply List.Mem.tail))
  have m12 : Fct.pt p12 0 [I ((N : Nat) : Int)] ∈ ro1 := by rw [← hro]; (repeat (first | exact List.Mem.head _ | apply List.Mem.tail))
  have m11 : Fct.pt p11 0 [I (1 + (N : Int))] ∈ ro1 := by rw [← hro]; (repeat (first | exact List.Mem.head _ | apply List.Mem.tail))
  have m22 : Fct.pt p22 0 [I ((1 : Nat) : Int)] ∈ ro1 := by rw [← hro]; (repeat (first | exact List.Mem.head _ | apply List.Mem.tail))
  have m21 : Fct.pt p21 0 [I (1 + 2 * (N : Int))] ∈ ro1 := by rw [← hro]; (repeat (first | exact List.Mem.head _ | apply List.Mem.tail))
  clear hro mp
  have H0 : Cx B0 W S8 (.sl t 1 (tkl K ([0] : List Int)) :: .obj q0 (.row [I 0]) :: .obj q1 (.row [I 0]) :: .obj q2 (.row [I 0]) :: own) ro1 := H.permS ((List.reverse_perm [Own.sl t 1 (tkl K ([0] : List Int)), .obj q0 (.row [I 0]), .obj q1 (.row [I 0]), .obj q2 (.row [I 0])]).append_right own)
  clear H
  refine wp_bind (wp_loop (wpL_for 3 (fun i vs S' => ∃ u w, vs = [I (i : Int), u, w] ∧ Cx B0 W S' (match i with
    | 0 => .sl t 1 (tkl K ([0] : List Int)) :: .obj q0 (.row [I 0]) :: .obj q1 (.row [I 0]) :: .obj q2 (.row [I 0]) :: own
    | 1 => .sl t 1 (tkl K ([0] ++ rwL 1 N)) :: .obj q1 (.row [I 0]) :: .obj q2 (.row [I 0]) :: own
    | 2 => .sl t 1 (tkl K ([0] ++ rwL 1 N ++ rwL (1 + N) N)) :: .obj q2 (.row [I 0]) :: own
    | _ => own) ro1) ?_ ?_ ⟨_, _, rfl, H0⟩))
  · rintro i vs S9 hi ⟨u, w, rfl, H⟩
    refine wp_lss_t (by show (i : Int) < 3; omega) ?_
    try(refine zz ?_;(repeat constructor);intro _)
    refine wp_bind ?_
    have hi3 : i = 0 ∨ i = 1 ∨ i = 2 := by omega
    rcases hi3 with rfl | rfl | rfl
    · refine wp_saddr H mv (i := 0) rfl fun id off H1 => ?_
      refine wp_load0 H1 (List.Mem.head _) rfl ?_
      refine hr (L := [0]) (a := 1) (n := N) (vs := [I ((0 : Nat) : Int), u, w]) (by omega) (by omega) (fun z hz => by rw [List.mem_singleton] at hz; omega) m02 m01 H fun S' u' H => ?_
      show wp EM _ _ _
      refine wp_add64 (by omega) (by omega) ?_
      exact wp_ret (.inl ⟨rfl, _, _, rfl, H.dropAt 1⟩)
    · refine wp_saddr H mv (i := 1) rfl fun id off H1 => ?_
      refine wp_load0 H1 (List.Mem.head _) rfl ?_
      refine hr (L := [0] ++ rwL 1 N) (a := 1 + (N : Int)) (n := N) (vs := [I ((1 : Nat) : Int), u, w]) (by omega) (by omega) (fun z hz => by
        rcases List.mem_append.1 hz with hz | hz
        · rw [List.mem_singleton] at hz; omega
        · have := mem_rwL.1 hz; omega) m12 m11 H fun S' u' H => ?_
      show wp EM _ _ _
      refine wp_add64 (by omega) (by omega) ?_
      exact wp_ret (.inl ⟨rfl, _, _, rfl, H.dropAt 1⟩)
    · refine wp_saddr H mv (i := 2) rfl fun id off H1 => ?_
      refine wp_load0 H1 (List.Mem.head _) rfl ?_
      refine hr (L := [0] ++ rwL 1 N ++ rwL (1 + N) N) (a := 1 + 2 * (N : Int)) (n := 1) (vs := [I ((2 : Nat) : Int), u, w]) (by omega) (by omega) (fun z hz => by
        rcases List.mem_append.1 hz with hz | hz
        · rcases List.mem_append.1 hz with hz | hz
          · rw [List.mem_singleton] at hz; omega
          · have := mem_rwL.1 hz; omega
        · have := mem_rwL.1 hz; omega) m22 m21 H fun S' u' H => ?_
      show wp EM _ _ _
      refine wp_add64 (by omega) (by omega) ?_
      exact wp_ret (.inl ⟨rfl, _, _, rfl, (H.dropAt 1).dropAt 0⟩)
  · rintro vs S9 ⟨u, w, rfl, H⟩
    refine wp_lss_f (by show (3 : Int) ≤ 3; omega) ?_
    try(refine zz ?_;(repeat constructor);intro _)
    refine wp_ret ⟨by simp, ?_⟩
    show wp EM _ _ _
    exact wp_ret ⟨rfl, rfl, back H⟩
end
end Go.Abs
namespace Go.Abs
open Go.Proofs
set_option maxRecDepth 100000
set_option linter.unusedVariables false
section
variable {B0 S : AH} {W : List Nat} {own : List Own} {ro : List Fct} {Q : Post} {k : AV → AC} {N C h K : Nat} {lim : Int}
theorem kt3 : EM.P.underlying 3 = some (.int .i64) := by kernel_rfl
theorem fitsL_ok (hN : 1 ≤ N ∧ N ≤ 128) (hC : 1 ≤ C ∧ C ≤ 64) (hl : 1 ≤ lim ∧ lim ≤ 4294967295) (hK : 6 + 2 * N + C ≤ K ∧ K ≤ 4096) (H : Cx B0 W S own ro) : wpC EM (.fn (.func 62) [] []) [.agg (toL N C h lim).lb, I (K : Int)] S fun r S' => r = I 0 ∧ Cx B0 W S' own ro := by
  refine wpC_fn (b := Tryz.a62) rfl rfl ?_
  unfold Tryz.a62 Tryz.a62x8 Tryz.a62x7 Tryz.a62x6 Tryz.a62x5 Tryz.a62x4 Tryz.a62x3 Tryz.a62x2 Tryz.a62x1 Tryz.a62x0
  refine wp_box H rfl fun p S1 H => ?_
  have H : Cx B0 W S1 own (.pt p 0 (toL N C h lim).lb :: ro) := H
  have mp : Fct.pt p 0 (toL N C h lim).lb ∈ (.pt p 0 (toL N C h lim).lb :: ro) := List.Mem.head _
  refine wp_lss_f (by omega) ?_
  try(refine zz ?_;(repeat constructor);intro _)
  refine wp_gtr_f (by omega) ?_
  try(refine zz ?_;(repeat constructor);intro _)
  refine wp_ldn (o := 0) (n := 6) H mp rfl ?_
  refine wp_call (wpC_mono (fitsA_ok (N := N) (C := C) (h := h) (lim := lim) hN hl (by omega) H) fun r S2 qq => ?_)
  obtain ⟨rfl, H⟩ := qq
  refine wp_neq_f (by omega) ?_
  try(refine zz ?_;(repeat constructor);intro _)
  refine wp_ldn (o := 6) (n := 3) H mp rfl ?_
  try(refine zz ?_;(repeat constructor);intro _)
  refine wp_callV H (fitsE_ok (a := 2 + 2 * N) (b := 3 + 2 * N) (n := C) (k := K) (by omega) (by omega) (by omega) (by omega) (by omega)) fun S2 H => ?_
  refine wp_gop_t (wp_neq_f (by omega) ?_)
  try(refine zz ?_;(repeat constructor);intro _)
  refine wp_ld (o := 9) H mp rfl ?_
  refine wp_gop_t (wp_lss_f (by show (0 : Int) ≤ 3 + 2 * N + C; omega) ?_)
  try(refine zz ?_;(repeat constructor);intro _)
  refine wp_ld (o := 9) H mp rfl ?_
  try(refine zz ?_;(repeat constructor);intro _)
  refine wp_sub64 (by omega) (by omega) ?_
  refine wp_gop_t (wp_gtr_f (by show (3 + 2 * N + C : Int) ≤ K - 3; omega) ?_)
  try(refine zz ?_;(repeat constructor);intro _)
  refine wp_mkmap H fun m S3 H => ?_
  refine wp_ldn (o := 0) (n := 10) H mp rfl ?_
  refine wp_call (wpC_mono (held_ok (N := N) (C := C) (h := h) (lim := lim) (by omega) (by omega) H) fun v S4 H => ?_)
  have H := H.toRo (i := 0) rfl
  have H : Cx B0 W S4 (.obj m (.map (ment [])) :: own) (.sl v 1 (ints (oth N C)) :: .pt p 0 (toL N C h lim).lb :: ro) := H
  have mv : Fct.sl v 1 (ints (oth N C)) ∈ (.sl v 1 (ints (oth N C)) :: .pt p 0 (toL N C h lim).lb :: ro) := List.Mem.head _
  refine wp_len H mv ?_
  rw [ints_len]
  have hol := oth_len N C
  refine wp_bind (wp_loop (wpL_for (oth N C).length (fun i vs S' => ∃ u mm, vs = [I (i : Int), u] ∧ (∀ a, a ∉ (oth N C).take i → mget mm a = none) ∧ Cx B0 W S' (.obj m (.map (ment mm)) :: own) (.sl v 1 (ints (oth N C)) :: .pt p 0 (toL N C h lim).lb :: ro)) ?_ ?_ ⟨_, [], rfl, fun _ _ => rfl, H⟩))
  · rintro i vs S5 hi ⟨u, mm, rfl, hm, H⟩
    have ha : (oth N C)[i]? = some (oth N C)[i] := List.getElem?_eq_getElem hi
    generalize (oth N C)[i] = a at ha
    have hno := hm a (nd_take (oth_nodup N C) ha)
    refine wp_lss_t (by omega) ?_
    try(refine zz ?_;(repeat constructor);intro _)
    refine wp_bind ?_
    refine wp_saddr H mv (ints_at ha) fun id off H1 => ?_
    refine wp_load0 H1 (List.Mem.head _) rfl ?_
    refine wp_lookup2 H 0 kt3 rfl ?_
    rw [hno]
    try(refine zz ?_;(repeat constructor);intro _)
    refine wp_alloc H fun q S6 H => ?_
    refine wp_store (n := 0) (v := .agg []) H 0 (c := []) rfl rfl rfl (by simp) fun S7 H => ?_
    have H := H.dropAt 0
    have H : Cx B0 W S7 (.obj m (.map (ment mm)) :: own) (.sl v 1 (ints (oth N C)) :: .pt p 0 (toL N C h lim).lb :: ro) := H
    try(refine zz ?_;(repeat constructor);intro _)
    refine wp_op (v := .agg []) rfl ?_
    refine wp_mapset H 0 kt3 rfl fun S8 H => ?_
    refine wp_ret ?_
    show wp EM _ _ _
    refine wp_add64 (by omega) (by omega) ?_
    refine wp_ret (.inl ⟨rfl, u, _, rfl, fun b hb => ?_, H⟩)
    rw [take_snoc ha] at hb
    rw [mget_mset, if_neg (fun e => hb (by rw [e]; simp))]
    exact hm b (fun hx => hb (List.mem_append_left _ hx))
  · rintro vs S5 ⟨u, mm, rfl, hm, H⟩
    refine wp_lss_f (by omega) ?_
    try(refine zz ?_;(repeat constructor);intro _)
    refine wp_ret ⟨by simp, ?_⟩
    show wp EM _ _ _
    exact wp_ret ⟨rfl, rfl, (H.dropAt 0).tl.tl⟩
/-! ### towers -/
def allT (N C h : Nat) : List Int := oth N C ++ rwL (6 + 2 * N + C + h) (N * (4 + h)) ++ rwL (6 + 2 * N + C) h
theorem allT_nodup (N C h : Nat) : (allT N C h).Nodup := by
  unfold allT
  rw [List.nodup_append, List.nodup_append]
  refine ⟨⟨oth_nodup N C, rwL_nodup _ _, fun x hx y hy => ?_⟩, rwL_nodup _ _, fun x hx y hy => ?_⟩
  · have h1 := mem_oth hx
    have h2 := mem_rwL.1 hy
    omega
  · have h2 := mem_rwL.1 hy
    rcases List.mem_append.1 hx with hx | hx
    · have h1 := mem_oth hx
      omega
    · have h1 := mem_rwL.1 hx
      omega
theorem mem_allT {N C h : Nat} {x : Int} (hx : x ∈ allT N C h) : 0 ≤ x ∧ x < 6 + 2 * N + C + h + N * (4 + h) := by
  unfold allT at hx
  have hm : ((N * (4 + h) : Nat) : Int) = (N : Int) * (4 + h) := by simp
  rw [← hm]
  rcases List.mem_append.1 hx with hx | hx
  · rcases List.mem_append.1 hx with hx | hx
    · have h1 := mem_oth hx
      omega
    · have h1 := mem_rwL.1 hx
      omega
  · have h1 := mem_rwL.1 hx
    omega
theorem toL_ok (hN : 1 ≤ N ∧ N ≤ 128) (hC : C ≤ 64) (hh : 1 ≤ h ∧ h ≤ 4) : (toL N C h lim).ok := by
  unfold To.ok toL
  dsimp only
  omega
theorem fitsT_ok (hN : 1 ≤ N ∧ N ≤ 128) (hC : 1 ≤ C ∧ C ≤ 64) (hh : 1 ≤ h ∧ h ≤ 4) (hl : 1 ≤ lim ∧ lim ≤ 4294967295) (hK : 6 + 2 * N + C + h + N * (4 + h) ≤ K ∧ K ≤ 4096) (H : Cx B0 W S own ro) : wpC EM (.fn (.func 30) [] []) [.agg (toL N C h lim).cs, I (K : Int)] S fun r S' => r = I 0 ∧ Cx B0 W S' own ro := by
  refine wpC_fn (b := Tryz.a30) rfl rfl ?_
  unfold Tryz.a30 Tryz.a30x15 Tryz.a30x14 Tryz.a30x13 Tryz.a30x12 Tryz.a30x11 Tryz.a30x10 Tryz.a30x9 Tryz.a30x8 Tryz.a30x7 Tryz.a30x6 Tryz.a30x5 Tryz.a30x4 Tryz.a30x3 Tryz.a30x2 Tryz.a30x1 Tryz.a30x0
  have hm : ((N * (4 + h) : Nat) : Int) = (N : Int) * (4 + h) := by simp
  generalize hP : N * (4 + h) = P at hK hm
  refine wp_box H rfl fun p S1 H => ?_
  have H : Cx B0 W S1 own (.pt p 0 (toL N C h lim).cs :: ro) := H
  have mp : Fct.pt p 0 (toL N C h lim).cs ∈ (.pt p 0 (toL N C h lim).cs :: ro) := List.Mem.head _
  refine wp_lss_f (by omega) ?_
  try(refine zz ?_;(repeat constructor);intro _)
  refine wp_gtr_f (by omega) ?_
  try(refine zz ?_;(repeat constructor);intro _)
  refine wp_ldn (o := 0) (n := 13) H mp rfl ?_
  refine wp_callV H (sound_ok (t := toL N C h lim)) fun S2 H => ?_
  rw [decide_eq_true (toL_ok hN hC.2 hh)]
  refine wp_notT ?_
  try(refine zz ?_;(repeat constructor);intro _)
  refine wp_ldn (o := 3) (n := 10) H mp rfl ?_
  try(refine zz ?_;(repeat constructor);intro _)
  refine wp_call (wpC_mono (fitsL_ok (N := N) (C := C) (h := h) (lim := lim) hN hC hl (by omega) H) fun r S2 qq => ?_)
  obtain ⟨rfl, H⟩ := qq
  refine wp_gop_t (wp_neq_f (by omega) ?_)
  try(refine zz ?_;(repeat constructor);intro _)
  refine wp_ldn (o := 3) (n := 10) H mp rfl ?_
  refine wp_call (wpC_mono (others_ok (N := N) (C := C) (h := h) (lim := lim) (by omega) (by omega) H) fun v S3 H => ?_)
  refine wp_ldn (o := 0) (n := 13) H mp rfl ?_
  refine wp_ldn (o := 0) (n := 13) H mp rfl ?_
  refine wp_callV H (nodes_ok (t := toL N C h lim)) fun S4 H => ?_
  refine wp_ckn (n := 13) (cs := (toL N C h lim).cs) H mp rfl rfl (by intro x hx; have hx : x ∈ (toL N C h lim).cs := hx; simp only [To.cs, List.mem_cons, List.not_mem_nil, or_false] at hx; rcases hx with rfl | rfl | rfl | rfl | rfl | rfl | rfl | rfl | rfl | rfl | rfl | rfl | rfl <;> exact beq_num) ?_
  refine wp_op (v := I ((N : Nat) : Int)) rfl ?_
  refine wp_callV H (nodes_ok (t := toL N C h lim)) fun S5 H => ?_
  refine wp_op (v := I ((h : Nat) : Int)) rfl ?_
  refine wp_callV H (nodeCells_ok (by omega) (by omega)) fun S6 H => ?_
  refine wp_mul64 (by omega) (by omega) ?_
  rw [← hm]
  have hol := oth_len N C
  refine wp_bind (wp_loop (wpL_for P (fun i vs S' => ∃ v, vs = [I (i : Int), v] ∧ Cx B0 W S' (.sl v 1 (ints (oth N C ++ rwL (6 + 2 * N + C + h) i)) :: own) (.pt p 0 (toL N C h lim).cs :: ro)) ?_ ?_ ⟨v, rfl, by rw [show rwL (6 + 2 * N + C + h) 0 = [] from rfl, List.append_nil]; exact H⟩))
  · rintro i vs S7 hi ⟨v, rfl, H⟩
    refine wp_lss_t (by omega) ?_
    try(refine zz ?_;(repeat constructor);intro _)
    refine wp_bind ?_
    try(refine zz ?_;(repeat constructor);intro _)
    refine wp_ld (o := 0) H mp rfl ?_
    refine wp_add64 (by show _ ≤ (6 + 2 * N + C + h + (i : Int) : Int); omega) (by show (6 + 2 * N + C + h + (i : Int) : Int) ≤ _; omega) ?_
    refine wp_more H 0 [6 + 2 * (N : Int) + C + h + i] rfl rfl rfl (by rw [List.length_append, rwL_len]; omega) fun v1 S8 H => ?_
    refine wp_ret ?_
    show wp EM _ _ _
    refine wp_add64 (by omega) (by omega) ?_
    refine wp_ret (.inl ⟨rfl, v1, rfl, ?_⟩)
    rw [rwL_succ, ← List.append_assoc]
    exact H
  rintro vs S7 ⟨v, rfl, H⟩
  refine wp_lss_f (by omega) ?_
  try(refine zz ?_;(repeat constructor);intro _)
  refine wp_ret ⟨by simp, ?_⟩
  show wp EM _ _ _
  try(refine zz ?_;(repeat constructor);intro _)
  refine wp_ld (o := 2) H mp rfl ?_
  refine wp_bind (wp_loop (wpL_for h (fun i vs S' => ∃ v, vs = [I (i : Int), v] ∧ Cx B0 W S' (.sl v 1 (ints (oth N C ++ rwL (6 + 2 * N + C + h) P ++ rwL (6 + 2 * N + C) i)) :: own) (.pt p 0 (toL N C h lim).cs :: ro)) ?_ ?_ ⟨v, rfl, by rw [show rwL (6 + 2 * N + C) 0 = [] from rfl, List.append_nil]; exact H⟩))
  · rintro i vs S7 hi ⟨v, rfl, H⟩
    refine wp_lss_t (by show (i : Int) < (h : Int); omega) ?_
    try(refine zz ?_;(repeat constructor);intro _)
    refine wp_bind ?_
    try(refine zz ?_;(repeat constructor);intro _)
    refine wp_ld (o := 1) H mp rfl ?_
    refine wp_add64 (by show _ ≤ (6 + 2 * N + C + (i : Int) : Int); omega) (by show (6 + 2 * N + C + (i : Int) : Int) ≤ _; omega) ?_
    refine wp_more H 0 [6 + 2 * (N : Int) + C + i] rfl rfl rfl (by rw [List.length_append, List.length_append, rwL_len, rwL_len]; omega) fun v1 S8 H => ?_
    refine wp_ret ?_
    show wp EM _ _ _
    refine wp_add64 (by omega) (by omega) ?_
    refine wp_ret (.inl ⟨rfl, v1, rfl, ?_⟩)
    rw [rwL_succ, ← List.append_assoc]
    exact H
  rintro vs S7 ⟨v, rfl, H⟩
  refine wp_lss_f (by show (h : Int) ≤ (h : Int); omega) ?_
  try(refine zz ?_;(repeat constructor);intro _)
  refine wp_ret ⟨by simp, ?_⟩
  show wp EM _ _ _
  have hall : oth N C ++ rwL (6 + 2 * N + C + h) P ++ rwL (6 + 2 * N + C) h = allT N C h := by unfold allT; rw [hP]
  have hbd := fun {x} (hx : x ∈ allT N C h) => mem_allT hx
  rw [← hm] at hbd
  have hnd := allT_nodup N C h
  have hlen : (allT N C h).length = 6 + 2 * N + C + P + h := by rw [← hall, List.length_append, List.length_append, rwL_len, rwL_len, hol]
  rw [hall] at H
  generalize allT N C h = L at *
  have H := H.toRo (i := 0) rfl
  have H : Cx B0 W S7 own (.sl v 1 (ints L) :: .pt p 0 (toL N C h lim).cs :: ro) := H
  have mv : Fct.sl v 1 (ints L) ∈ (.sl v 1 (ints L) :: .pt p 0 (toL N C h lim).cs :: ro) := List.Mem.head _
  refine wp_tknew H (by omega) fun t S8 H => ?_
  refine wp_len H mv ?_
  rw [ints_len]
  refine wp_bind (wp_loop (wpL_for L.length (fun i vs S' => ∃ u, vs = [I (i : Int), u] ∧ Cx B0 W S' (.sl t 1 (tkl K (L.take i)) :: own) (.sl v 1 (ints L) :: .pt p 0 (toL N C h lim).cs :: ro)) ?_ ?_ ⟨_, rfl, H⟩))
  · rintro i vs S9 hi ⟨u, rfl, H⟩
    have ha : L[i]? = some L[i] := List.getElem?_eq_getElem hi
    have hb := hbd (List.getElem_mem hi)
    generalize L[i] = a at ha hb
    refine wp_lss_t (by omega) ?_
    try(refine zz ?_;(repeat constructor);intro _)
    refine wp_bind ?_
    refine wp_saddr H mv (ints_at ha) fun id off H1 => ?_
    refine wp_load0 H1 (List.Mem.head _) rfl ?_
    refine wp_geq_f (by omega) ?_
    try(refine zz ?_;(repeat constructor);intro _)
    obtain ⟨c, rfl⟩ : ∃ c : Nat, a = (c : Int) := ⟨a.toNat, by omega⟩
    refine wp_saddro H 0 rfl (tkl_get (i := c) (by omega)) fun id off hp => ?_
    try(refine zz ?_;(repeat constructor);intro _)
    refine wp_loadF0 hp ?_
    rw [decide_eq_false (nd_take hnd ha)]
    try(refine zz ?_;(repeat constructor);intro _)
    refine wp_tkset H 0 rfl (by omega) fun S10 H => ?_
    refine wp_ret ?_
    show wp EM _ _ _
    refine wp_add64 (by omega) (by omega) ?_
    refine wp_ret (.inl ⟨rfl, u, rfl, ?_⟩)
    rw [take_snoc ha]
    exact H
  · rintro vs S9 ⟨u, rfl, H⟩
    refine wp_lss_f (by omega) ?_
    try(refine zz ?_;(repeat constructor);intro _)
    refine wp_ret ⟨by simp, ?_⟩
    show wp EM _ _ _
    exact wp_ret ⟨rfl, rfl, (H.dropAt 0).tl.tl⟩
end
end Go.Abs
namespace Go.Abs
open Go.Proofs
set_option maxRecDepth 100000
set_option linter.unusedVariables false
def prs (l : List (Int × Int)) : List (List AV) := l.map fun p => [I p.1, I p.2]
theorem prs_len (l : List (Int × Int)) : (prs l).length = l.length := List.length_map ..
theorem prs_at {l : List (Int × Int)} {i : Nat} {p : Int × Int} (h : l[i]? = some p) : (prs l)[i]? = some [I p.1, I p.2] := by unfold prs; rw [List.getElem?_map, h]; rfl
theorem prs_take (l : List (Int × Int)) (i : Nat) : (prs l).take i = prs (l.take i) := by unfold prs; rw [List.map_take]
section
variable {B0 S : AH} {W : List Nat} {own : List Own} {ro : List Fct} {Q : Post} {k : AV → AC} {N C h n J R K : Nat} {lim : Int}
theorem wp_bld2 {M : Mach} {a b : Int} (hk : wp M (k (.agg [I a, I b])) S Q) : wp M (.op (.build [I 0, I 0] [(0, 1, I a), (1, 1, I b)]) k) S Q := wp_op (v := .agg [I a, I b]) rfl hk
theorem wp_pairs {M : Mach} (H : Cx B0 W S own ro) {n : Nat} {ps : List (Nat × Nat × AV)} (l : List (Int × Int)) (he : fillP (repZero [I 0, I 0] n) ps = some (prs l).flatten) (hn : l.length = n)
    (hk : ∀ v S1, Cx B0 W S1 own (.sl v 2 (prs l) :: ro) → wp M (k v) S1 Q) : wp M (.op (.bslice 2 n [I 0, I 0] ps) k) S Q :=
  wp_litsG H (prs l) he (by rw [prs_len]; exact hn) rfl (fun x hx => by
    unfold prs at hx
    obtain ⟨a, _, rfl⟩ := List.mem_map.1 hx; rfl) fun v S1 H => hk v S1 (H.toRo (i := 0) rfl)
/-! ### jobs -/
def jrows (j : Int) (J : Nat) : List (Int × Int) := [(j + 2 * J, 1), (j + 2 * J + 1, J), (j, J), (j + J, J)]
theorem jrows_at {j : Int} {i : Nat} (hi : i < 4) : ∃ p, (jrows j J)[i]? = some p := ⟨_, List.getElem?_eq_getElem (by simpa [jrows] using hi)⟩
theorem jrows_in {j : Int} {i : Nat} {p : Int × Int} (h : (jrows j J)[i]? = some p) : (i = 0 ∧ p = (j + 2 * J, 1)) ∨ (i = 1 ∧ p = (j + 2 * J + 1, (J : Int))) ∨ (i = 2 ∧ p = (j, (J : Int))) ∨ (i = 3 ∧ p = (j + J, (J : Int))) := by
  have hi := (List.getElem?_eq_some_iff.1 h).1
  have hl : (jrows j J).length = 4 := rfl
  have : i = 0 ∨ i = 1 ∨ i = 2 ∨ i = 3 := by omega
  rcases this with rfl | rfl | rfl | rfl <;> (simp [jrows] at h; simp [← h])
theorem fitsJ_ok {j : Int} (hK : 1 ≤ K ∧ K ≤ 4096) (hJ : 1 ≤ J ∧ J ≤ 64) (hj : 0 ≤ j ∧ j + 3 * J + 1 ≤ K) (H : Cx B0 W S own ro) : wpC EM (.fn (.func 32) [] []) [.agg [I j, I (j + J), I (j + 2 * J), I (j + 2 * J + 1), I (J : Int)], I (K : Int)] S fun r S' => r = I 0 ∧ Cx B0 W S' own ro := by
  refine wpC_fn (b := Tryz.a32) rfl rfl ?_
  unfold Tryz.a32 Tryz.a32x16 Tryz.a32x15 Tryz.a32x14 Tryz.a32x13 Tryz.a32x12 Tryz.a32x11 Tryz.a32x10 Tryz.a32x9 Tryz.a32x8 Tryz.a32x7 Tryz.a32x6 Tryz.a32x5 Tryz.a32x4 Tryz.a32x3 Tryz.a32x2 Tryz.a32x1 Tryz.a32x0
  refine wp_box H rfl fun p S1 H => ?_
  have H : Cx B0 W S1 own (.pt p 0 [I j, I (j + J), I (j + 2 * J), I (j + 2 * J + 1), I (J : Int)] :: ro) := H
  have mp : Fct.pt p 0 [I j, I (j + J), I (j + 2 * J), I (j + 2 * J + 1), I (J : Int)] ∈ (.pt p 0 [I j, I (j + J), I (j + 2 * J), I (j + 2 * J + 1), I (J : Int)] :: ro) := List.Mem.head _
  try(refine zz ?_;(repeat constructor);intro _)
  refine wp_ldn (o := 2) (n := 3) H mp rfl ?_
  refine wp_callV H (fitsS_ok (a := j + 2 * J) (b := j + 2 * J + 1) (n := J) (k := K) (by omega) (by omega) (by omega) (by omega) (by omega)) fun S2 H => ?_
  refine wp_eql_f (by omega) ?_
  try(refine zz ?_;(repeat constructor);intro _)
  refine wp_neq_f (by omega) ?_
  try(refine zz ?_;(repeat constructor);intro _)
  refine wp_ldn (o := 0) (n := 5) H mp rfl ?_
  try(refine zz ?_;(repeat constructor);intro _)
  refine wp_callV H (sizedJ_ok (n := J) (by omega)) fun S3 H => ?_
  refine wp_gop_t (wp_notT ?_)
  try(refine zz ?_;(repeat constructor);intro _)
  refine wp_ld (o := 4) H mp rfl ?_
  try(refine zz ?_;(repeat constructor);intro _)
  refine wp_ld (o := 2) H mp rfl ?_
  refine wp_bld2 ?_
  try(refine zz ?_;(repeat constructor);intro _)
  refine wp_ld (o := 3) H mp rfl ?_
  refine wp_bld2 ?_
  try(refine zz ?_;(repeat constructor);intro _)
  refine wp_ld (o := 0) H mp rfl ?_
  refine wp_bld2 ?_
  try(refine zz ?_;(repeat constructor);intro _)
  refine wp_ld (o := 1) H mp rfl ?_
  refine wp_bld2 ?_
  refine wp_pairs H (jrows j J) rfl rfl fun v S4 H => ?_
  have mv : Fct.sl v 2 (prs (jrows j J)) ∈ (.sl v 2 (prs (jrows j J)) :: .pt p 0 [I j, I (j + J), I (j + 2 * J), I (j + 2 * J + 1), I (J : Int)] :: ro) := List.Mem.head _
  have back : ∀ {S own}, Cx B0 W S own (.sl v 2 (prs (jrows j J)) :: .pt p 0 [I j, I (j + J), I (j + 2 * J), I (j + 2 * J + 1), I (J : Int)] :: ro) → Cx B0 W S own ro := fun H => H.tl.tl
  generalize (.sl v 2 (prs (jrows j J)) :: .pt p 0 [I j, I (j + J), I (j + 2 * J), I (j + 2 * J + 1), I (J : Int)] :: ro) = ro1 at *
  clear mp
  refine wp_len H mv ?_
  rw [prs_len]
  refine wp_bind (wp_loop (wpL_for 4 (fun i vs S' => ∃ u w, vs = [I (i : Int), u, w] ∧ Cx B0 W S' own ro1) ?_ ?_ ⟨_, _, rfl, H⟩))
  · rintro i vs S5 hi ⟨u, w, rfl, H⟩
    obtain ⟨⟨a, c⟩, hp⟩ := jrows_at (J := J) (j := j) hi
    have hin := jrows_in hp
    simp only [Prod.mk.injEq] at hin
    refine wp_lss_t (by show (i : Int) < 4; omega) ?_
    try(refine zz ?_;(repeat constructor);intro _)
    refine wp_bind ?_
    refine wp_saddr H mv (prs_at hp) fun id off H1 => ?_
    refine wp_loada H1 (List.Mem.head _) (by simp) ?_
    refine wp_tmpN H rfl rfl rfl fun q S6 H => ?_
    have H : Cx B0 W S6 own (.pt q 0 [I a, I c] :: ro1) := H
    refine wp_paddr (i := 0) (by omega) ?_
    refine wp_ld (o := 0) H (List.Mem.head _) rfl ?_
    refine wp_lss_f (by omega) ?_
    try(refine zz ?_;(repeat constructor);intro _)
    refine wp_paddr (i := 0) (by omega) ?_
    try(refine zz ?_;(repeat constructor);intro _)
    refine wp_ld (o := 0) H (List.Mem.head _) rfl ?_
    try(refine zz ?_;(repeat constructor);intro _)
    refine wp_paddr (i := 1) (by omega) ?_
    try(refine zz ?_;(repeat constructor);intro _)
    refine wp_ld (o := 1) H (List.Mem.head _) rfl ?_
    refine wp_gop_t (wp_sub64 (by omega) (by omega) ?_)
    refine wp_gop_t (wp_gtr_f (by omega) ?_)
    try(refine zz ?_;(repeat constructor);intro _)
    refine wp_prefix H (List.mem_cons_of_mem _ mv) (i := i) (by rw [prs_len]; show i ≤ 4; omega) fun v2 H => ?_
    rw [prs_take] at H
    have mq : Fct.pt q 0 [I a, I c] ∈ (.sl v2 2 (prs ((jrows j J).take i)) :: .pt q 0 [I a, I c] :: ro1) := List.Mem.tail _ (List.Mem.head _)
    refine wp_len H (List.Mem.head _) ?_
    have hl : ((jrows j J).take i).length = i := by rw [List.length_take]; show min i 4 = i; omega
    rw [prs_len, hl]
    refine wp_bind (wp_loop (wpL_for i (fun i2 vs S' => ∃ u, vs = [I (i2 : Int), u] ∧ Cx B0 W S' own (.sl v2 2 (prs ((jrows j J).take i)) :: .pt q 0 [I a, I c] :: ro1)) ?_ ?_ ⟨_, rfl, H⟩))
    · rintro i2 vs S7 hi2 ⟨u2, rfl, H⟩
      obtain ⟨⟨a2, c2⟩, hp2⟩ := jrows_at (J := J) (j := j) (i := i2) (by omega)
      have hin2 := jrows_in hp2
      simp only [Prod.mk.injEq] at hin2
      have hp3 : ((jrows j J).take i)[i2]? = some (a2, c2) := by rw [List.getElem?_take]; simp [hi2, hp2]
      refine wp_lss_t (by omega) ?_
      try(refine zz ?_;(repeat constructor);intro _)
      refine wp_bind ?_
      refine wp_saddr H (List.Mem.head _) (prs_at hp3) fun id off H1 => ?_
      refine wp_loada H1 (List.Mem.head _) (by simp) ?_
      refine wp_tmpN H rfl rfl rfl fun q2 S8 H => ?_
      have H : Cx B0 W S8 own (.pt q2 0 [I a2, I c2] :: .sl v2 2 (prs ((jrows j J).take i)) :: .pt q 0 [I a, I c] :: ro1) := H
      have mq := List.mem_cons_of_mem (Fct.pt q2 0 [I a2, I c2]) mq
      refine wp_paddr (i := 0) (by omega) ?_
      refine wp_ld (o := 0) H mq rfl ?_
      refine wp_paddr (i := 0) (by omega) ?_
      refine wp_ld (o := 0) H (List.Mem.head _) rfl ?_
      refine wp_paddr (i := 1) (by omega) ?_
      refine wp_ld (o := 1) H (List.Mem.head _) rfl ?_
      refine wp_add64 (by omega) (by omega) ?_
      refine wp_lss (fun h1 => ?_) (fun h1 => ?_)
      · try(refine zz ?_;(repeat constructor);intro _)
        refine wp_paddr (i := 0) (by omega) ?_
        try(refine zz ?_;(repeat constructor);intro _)
        refine wp_ld (o := 0) H (List.Mem.head _) rfl ?_
        try(refine zz ?_;(repeat constructor);intro _)
        refine wp_paddr (i := 0) (by omega) ?_
        try(refine zz ?_;(repeat constructor);intro _)
        refine wp_ld (o := 0) H mq rfl ?_
        try(refine zz ?_;(repeat constructor);intro _)
        refine wp_paddr (i := 1) (by omega) ?_
        try(refine zz ?_;(repeat constructor);intro _)
        refine wp_ld (o := 1) H mq rfl ?_
        refine wp_gop_t (wp_add64 (by omega) (by omega) ?_)
        refine wp_gop_t (wp_lss_f (by omega) ?_)
        try(refine zz ?_;(repeat constructor);intro _)
        refine wp_ret ?_
        show wp EM _ _ _
        refine wp_add64 (by omega) (by omega) ?_
        exact wp_ret (.inl ⟨rfl, u2, rfl, H.tl⟩)
      · try(refine zz ?_;(repeat constructor);intro _)
        refine wp_ret ?_
        show wp EM _ _ _
        refine wp_add64 (by omega) (by omega) ?_
        exact wp_ret (.inl ⟨rfl, u2, rfl, H.tl⟩)
    · rintro vs S7 ⟨u2, rfl, H⟩
      refine wp_lss_f (by omega) ?_
      try(refine zz ?_;(repeat constructor);intro _)
      refine wp_ret ⟨by simp, ?_⟩
      show wp EM _ _ _
      refine wp_ret ?_
      show wp EM _ _ _
      refine wp_add64 (by omega) (by omega) ?_
      exact wp_ret (.inl ⟨rfl, _, _, rfl, H.tl.tl⟩)
  · rintro vs S5 ⟨u, w, rfl, H⟩
    refine wp_lss_f (by show (4 : Int) ≤ 4; omega) ?_
    try(refine zz ?_;(repeat constructor);intro _)
    refine wp_ret ⟨by simp, ?_⟩
    show wp EM _ _ _
    exact wp_ret ⟨rfl, rfl, back H⟩
end
end Go.Abs
namespace Go.Abs
open Go.Proofs
set_option maxRecDepth 100000
set_option linter.unusedVariables false
open Tsk (Tk tks tchk)
/-! ### the executive's rows -/
def exV (N C h n J R : Nat) (lim g j m r : Int) : Ex := { t := toL N C h lim, gfirst := g, gmany := n, jst := j, jkeys := j + J, jtop := j + 2 * J, jlinks := j + 2 * J + 1, jsize := J, mfirst := m, mcores := C, mroom := R, rruns := r, rflags := r + C, rcores := C, own := r + 2 * C, seq := r + 3 * C }
structure Lx (N C h n J R : Nat) (lim g j m r : Int) : Prop where
  hN : 1 ≤ N ∧ N ≤ 128
  hC : 1 ≤ C ∧ C ≤ 64
  hh : 1 ≤ h ∧ h ≤ 4
  hn : 1 ≤ n ∧ n ≤ 32
  hJ : 1 ≤ J ∧ J ≤ 64
  hR : 1 ≤ R ∧ R ≤ 16
  hl : 1 ≤ lim ∧ lim ≤ 4294967295
  hP : N * (4 + h) ≤ 1024
  hM : C * (R + 2) ≤ 1152
  hg : g = 6 + 2 * N + C + h + (N * (4 + h) : Nat)
  hj : j = g + n
  hm : m = j + 3 * J + 1
  hr : r = m + (C * (R + 2) : Nat)
def mns (N C h n J R : Nat) : List Nat := [1, N, N, 1, 1, C, 3, h, N * (4 + h), n, J, J, 1, J, C * (R + 2), C, C, C, 1]
def pos (l : List Nat) (i : Nat) : Nat := (l.take i).sum
theorem pos_succ {l : List Nat} {i c : Nat} (h : l[i]? = some c) : pos l (i + 1) = pos l i + c := by
  unfold pos
  rw [List.take_add_one, h]
  simp
def hrows (N C h n J R : Nat) (g j m r : Int) : List (Int × Int) := [(0, 1), (1, N), (1 + N, N), (1 + 2 * N, 1), (2 + 2 * N, 1), (3 + 2 * N, C), (3 + 2 * N + C, 3), (6 + 2 * N + C, h), (6 + 2 * N + C + h, N * (4 + h)), (g, n), (j, J), (j + J, J), (j + 2 * J, 1), (j + 2 * J + 1, J), (m, C * (R + 2)), (r, C), (r + C, C), (r + 2 * C, C), (r + 3 * C, 1)]
theorem hrows_at {N C h n J R : Nat} {lim g j m r : Int} (L : Lx N C h n J R lim g j m r) {i : Nat} (hi : i < 19) : ∃ c, (mns N C h n J R)[i]? = some c ∧ (hrows N C h n J R g j m r)[i]? = some (((pos (mns N C h n J R) i : Nat) : Int), ((c : Nat) : Int)) := by
  obtain ⟨hN, hC, hh, hn, hJ, hR, hl, hP, hM, hg, hj, hm, hr⟩ := L
  have e1 : ((N * (4 + h) : Nat) : Int) = N * (4 + h) := by simp
  have e2 : ((C * (R + 2) : Nat) : Int) = C * (R + 2) := by simp
  unfold hrows mns
  rw [← e1, ← e2]
  clear e1 e2
  generalize N * (4 + h) = P at *
  generalize C * (R + 2) = M at *
  have : i = 0 ∨ i = 1 ∨ i = 2 ∨ i = 3 ∨ i = 4 ∨ i = 5 ∨ i = 6 ∨ i = 7 ∨ i = 8 ∨ i = 9 ∨ i = 10 ∨ i = 11 ∨ i = 12 ∨ i = 13 ∨ i = 14 ∨ i = 15 ∨ i = 16 ∨ i = 17 ∨ i = 18 := by omega
  rcases this with rfl | rfl | rfl | rfl | rfl | rfl | rfl | rfl | rfl | rfl | rfl | rfl | rfl | rfl | rfl | rfl | rfl | rfl | rfl <;>
    (refine ⟨_, rfl, ?_⟩; simp only [pos, List.take_succ_cons, List.take_zero, List.sum_cons, List.sum_nil, List.getElem?_cons_zero, List.getElem?_cons_succ, Option.some.injEq, Prod.mk.injEq]; exact ⟨by omega, by first | trivial | omega⟩)
section
variable {B0 S : AH} {W : List Nat} {own : List Own} {ro : List Fct} {Q : Post} {k : AV → AC} {N C h n J R K : Nat} {lim g j m r : Int} {u : AV} {l : List Tk}
set_option maxHeartbeats 4000000 in
theorem heldE_ok (L : Lx N C h n J R lim g j m r) (hu : odd u = false ∧ u.cells = [u]) (H : Cx B0 W S own ro) : wpC EM (.fn (.func 35) [] []) [.agg ((exV N C h n J R lim g j m r).cs u)] S fun v S' => Cx B0 W S' own (.sl v 2 (prs (hrows N C h n J R g j m r)) :: ro) := by
  refine wpC_fn (b := Tryz.a35) rfl rfl ?_
  obtain ⟨hN, hC, hh, hn, hJ, hR, hl, hP, hM, hg, hj, hm, hr⟩ := L
  have e1 : ((N * (4 + h) : Nat) : Int) = N * (4 + h) := by simp
  have e2 : ((C * (R + 2) : Nat) : Int) = C * (R + 2) := by simp
  unfold Tryz.a35 Tryz.a35x25 Tryz.a35x24 Tryz.a35x23 Tryz.a35x22 Tryz.a35x21 Tryz.a35x20 Tryz.a35x19 Tryz.a35x18 Tryz.a35x17 Tryz.a35x16 Tryz.a35x15 Tryz.a35x14 Tryz.a35x13 Tryz.a35x12 Tryz.a35x11 Tryz.a35x10 Tryz.a35x9 Tryz.a35x8 Tryz.a35x7 Tryz.a35x6 Tryz.a35x5 Tryz.a35x4 Tryz.a35x3 Tryz.a35x2 Tryz.a35x1 Tryz.a35x0
  refine wp_box H rfl fun p S1 H => ?_
  have H : Cx B0 W S1 own (.pt p 0 ((exV N C h n J R lim g j m r).cs u) :: ro) := H
  try(refine zz ?_;(repeat constructor);intro _)
  refine wp_ldn (o := 3) (n := 10) H (List.Mem.head _) rfl ?_
  try(refine zz ?_;(repeat constructor);intro _)
  refine wp_ld (o := 5) H (List.Mem.head _) rfl ?_
  refine wp_tmpN H rfl rfl rfl fun q S2 H => ?_
  have H : Cx B0 W S2 own (.pt q 0 (toL N C h lim).lb :: .pt p 0 ((exV N C h n J R lim g j m r).cs u) :: ro) := H
  have mq : Fct.pt q 0 (toL N C h lim).lb ∈ (.pt q 0 (toL N C h lim).lb :: .pt p 0 ((exV N C h n J R lim g j m r).cs u) :: ro) := List.Mem.head _
  have mp : Fct.pt p 0 ((exV N C h n J R lim g j m r).cs u) ∈ (.pt q 0 (toL N C h lim).lb :: .pt p 0 ((exV N C h n J R lim g j m r).cs u) :: ro) := List.Mem.tail _ (List.Mem.head _)
  refine wp_ck (o := 5) H mp rfl beq_num ?_
  repeat' (first | (first|refine zA ?_|refine zB rfl ?_|refine zC ?_|refine zD ?_|refine zE rfl ?_|refine zF ?_|refine zG ?_|refine zH ?_|refine zI ?_|refine zJ ?_|refine zK ?_|refine zL rfl ?_|refine zN rfl ?_) | refine wp_ld H mq rfl ?_ | refine wp_ld H mp rfl ?_ | refine wp_ck H mp rfl beq_num ?_ | refine wp_ck H mq rfl beq_num ?_ | refine wp_bld2 ?_)
  refine wp_add64 (by show _ ≤ (4 + h : Int); omega) (by show (4 + h : Int) ≤ _; omega) ?_
  refine wp_mul64 (by show _ ≤ (N * (4 + h) : Int); omega) (by show (N * (4 + h) : Int) ≤ _; omega) ?_
  repeat' (first | (first|refine zA ?_|refine zB rfl ?_|refine zC ?_|refine zD ?_|refine zE rfl ?_|refine zF ?_|refine zG ?_|refine zH ?_|refine zI ?_|refine zJ ?_|refine zK ?_|refine zL rfl ?_|refine zN rfl ?_) | refine wp_ld H mq rfl ?_ | refine wp_ld H mp rfl ?_ | refine wp_ck H mp rfl beq_num ?_ | refine wp_ck H mq rfl beq_num ?_ | refine wp_bld2 ?_)
  refine wp_ldn (o := 20) (n := 3) H mp rfl ?_
  repeat' (first | (first|refine zA ?_|refine zB rfl ?_|refine zC ?_|refine zD ?_|refine zE rfl ?_|refine zF ?_|refine zG ?_|refine zH ?_|refine zI ?_|refine zJ ?_|refine zK ?_|refine zL rfl ?_|refine zN rfl ?_) | refine wp_ld H mq rfl ?_ | refine wp_ld H mp rfl ?_ | refine wp_ck H mp rfl beq_num ?_ | refine wp_ck H mq rfl beq_num ?_ | refine wp_bld2 ?_)
  refine wp_callV H (sizeM_ok (a := m) (n := C) (h := R) ⟨by omega, by omega, by omega, by omega⟩ (by omega)) fun S3 H => ?_
  repeat' (first | (first|refine zA ?_|refine zB rfl ?_|refine zC ?_|refine zD ?_|refine zE rfl ?_|refine zF ?_|refine zG ?_|refine zH ?_|refine zI ?_|refine zJ ?_|refine zK ?_|refine zL rfl ?_|refine zN rfl ?_) | refine wp_ld H mq rfl ?_ | refine wp_ld H mp rfl ?_ | refine wp_ck H mp rfl beq_num ?_ | refine wp_ck H mq rfl beq_num ?_ | refine wp_bld2 ?_)
  refine wp_pairs H (hrows N C h n J R g j m r) rfl rfl fun v S4 H => ?_
  exact wp_ret ⟨rfl, H.dropRo fun φ hφ => by
    rcases List.mem_cons.1 hφ with rfl | hφ
    · exact List.Mem.head _
    · exact List.Mem.tail _ (List.Mem.tail _ (List.Mem.tail _ hφ))⟩

set_option maxHeartbeats 4000000 in
theorem fitsX_ok (L : Lx N C h n J R lim g j m r) (hl2 : l.length = n) (hc : tchk l = 0) (hu : Fct.sl u 4 (tks l) ∈ ro) (hK : (K : Int) ≤ r + 3 * C + 1) (hK2 : r + 3 * C ≤ K) (H : Cx B0 W S own ro) : wpC EM (.fn (.func 8) [] []) [.agg ((exV N C h n J R lim g j m r).cs u), I (K : Int)] S fun v S' => v = (if (K : Int) = r + 3 * C + 1 then I 0 else I 2) ∧ Cx B0 W S' own ro := by
  refine wpC_fn (b := Tryz.a8) rfl rfl ?_
  have LL := L
  obtain ⟨hN, hC, hh, hn, hJ, hR, hl, hP, hM, hg, hj, hm, hr⟩ := L
  have e1 : ((N * (4 + h) : Nat) : Int) = N * (4 + h) := by simp
  have e2 : ((C * (R + 2) : Nat) : Int) = C * (R + 2) := by simp
  have huv := slOk_one (H.rh _ hu)
  have hok : (exV N C h n J R lim g j m r).ok l := by
    unfold Ex.ok cellP exV
    refine ⟨toL_ok hN hC.2 hh, hc, by omega, ?_⟩
    dsimp only [toL]
    refine ⟨by omega, by omega, by omega, by omega, by omega, by omega, by omega, by omega, by omega, ?_⟩
    omega
  unfold Tryz.a8 Tryz.a8x14 Tryz.a8x13 Tryz.a8x12 Tryz.a8x11 Tryz.a8x10 Tryz.a8x9 Tryz.a8x8 Tryz.a8x7 Tryz.a8x6 Tryz.a8x5 Tryz.a8x4 Tryz.a8x3 Tryz.a8x2 Tryz.a8x1 Tryz.a8x0
  refine wp_box H rfl fun p S1 H => ?_
  have H : Cx B0 W S1 own (.pt p 0 ((exV N C h n J R lim g j m r).cs u) :: ro) := H
  have mp : Fct.pt p 0 ((exV N C h n J R lim g j m r).cs u) ∈ (.pt p 0 ((exV N C h n J R lim g j m r).cs u) :: ro) := List.Mem.head _
  refine wp_lss_f (by omega) ?_
  try(refine zz ?_;(repeat constructor);intro _)
  refine wp_gtr_f (by omega) ?_
  try(refine zz ?_;(repeat constructor);intro _)
  refine wp_ldn (o := 0) (n := 29) H mp rfl ?_
  refine wp_callV H (soundE_ok (e := exV N C h n J R lim g j m r) (List.mem_cons_of_mem _ hu) H) fun S2 H => ?_
  rw [decide_eq_true hok]
  refine wp_notT ?_
  try(refine zz ?_;(repeat constructor);intro _)
  refine wp_ldn (o := 0) (n := 13) H mp rfl ?_
  try(refine zz ?_;(repeat constructor);intro _)
  refine wp_call (wpC_mono (fitsT_ok (N := N) (C := C) (h := h) (lim := lim) hN hC hh hl (by omega) H) fun v S3 q => ?_)
  obtain ⟨rfl, H⟩ := q
  refine wp_gop_t (wp_neq_f (by omega) ?_)
  try(refine zz ?_;(repeat constructor);intro _)
  refine wp_ldn (o := 13) (n := 2) H mp rfl ?_
  try(refine zz ?_;(repeat constructor);intro _)
  refine wp_callV H (fitsG_ok (a := g) (n := n) (k := K) (by omega) (by omega) (by omega)) fun S4 H => ?_
  refine wp_gop_t (wp_neq_f (by omega) ?_)
  try(refine zz ?_;(repeat constructor);intro _)
  refine wp_ldn (o := 15) (n := 5) H mp rfl ?_
  try(refine zz ?_;(repeat constructor);intro _)
  refine wp_call (wpC_mono (fitsJ_ok (J := J) (j := j) (K := K) (by omega) (by omega) (by omega) H) fun v S3 q => ?_)
  obtain ⟨rfl, H⟩ := q
  refine wp_gop_t (wp_neq_f (by omega) ?_)
  try(refine zz ?_;(repeat constructor);intro _)
  refine wp_ldn (o := 20) (n := 3) H mp rfl ?_
  try(refine zz ?_;(repeat constructor);intro _)
  refine wp_callV H (fitsM_ok (a := m) (n := C) (h := R) (k := K) (by omega) ⟨by omega, by omega, by omega, by omega⟩ (by omega) (by omega) (by omega)) fun S4 H => ?_
  refine wp_gop_t (wp_neq_f (by omega) ?_)
  try(refine zz ?_;(repeat constructor);intro _)
  refine wp_ldn (o := 23) (n := 3) H mp rfl ?_
  try(refine zz ?_;(repeat constructor);intro _)
  refine wp_callV H (fitsR_ok (a := r) (b := r + C) (n := C) (k := K) (by omega) (by omega) (by omega)) fun S4 H => ?_
  refine wp_gop_t (wp_neq_f (by omega) ?_)
  try(refine zz ?_;(repeat constructor);intro _)
  refine wp_tknew H (by omega) fun t S5 H => ?_
  refine wp_ldn (o := 0) (n := 29) H mp rfl ?_
  refine wp_call (wpC_mono (heldE_ok LL huv H) fun v S6 H => ?_)
  have mv : Fct.sl v 2 (prs (hrows N C h n J R g j m r)) ∈ (.sl v 2 (prs (hrows N C h n J R g j m r)) :: .pt p 0 ((exV N C h n J R lim g j m r).cs u) :: ro) := List.Mem.head _
  have back : ∀ {S own}, Cx B0 W S own (.sl v 2 (prs (hrows N C h n J R g j m r)) :: .pt p 0 ((exV N C h n J R lim g j m r).cs u) :: ro) → Cx B0 W S own ro := fun H => H.tl.tl
  have hat := fun {i : Nat} (hi : i < 19) => hrows_at LL hi
  have h19 : (pos (mns N C h n J R) 19 : Int) = r + 3 * C + 1 := by
    simp only [mns, pos, List.take_succ_cons, List.take_nil, List.sum_cons, List.sum_nil]
    omega
  have hmono : ∀ i, pos (mns N C h n J R) i ≤ pos (mns N C h n J R) 19 := by
    intro i
    unfold pos
    have e : ((mns N C h n J R).take 19) = mns N C h n J R := rfl
    rw [e]
    conv => rhs; rw [← List.take_append_drop i (mns N C h n J R)]
    rw [List.sum_append]; omega
  have hlast : pos (mns N C h n J R) 18 + 1 = pos (mns N C h n J R) 19 := (pos_succ (l := mns N C h n J R) (i := 18) rfl).symm
  refine wp_len H mv ?_
  rw [prs_len]
  generalize (.sl v 2 (prs (hrows N C h n J R g j m r)) :: .pt p 0 ((exV N C h n J R lim g j m r).cs u) :: ro) = ro1 at *
  clear mp
  have h191 : (hrows N C h n J R g j m r).length = 19 := rfl
  rw [h191]
  generalize hrows N C h n J R g j m r = HR at *
  generalize mns N C h n J R = MN at *
  refine wp_bind (wp_loop (wpL_for 19 (fun i vs S' => ∃ u w, vs = [I (i : Int), u, w] ∧ pos MN i ≤ K ∧ Cx B0 W S' (.sl t 1 (tkl K (rwL 0 (pos MN i))) :: own) ro1) ?_ ?_ ⟨_, _, rfl, by show 0 ≤ K; omega, H⟩))
  · rintro i vs S7 hi ⟨u1, w, rfl, hpk, H⟩
    obtain ⟨c, hc1, hp⟩ := hat hi
    have hps := pos_succ hc1
    have hm19 := hmono (i + 1)
    have hm18 : i < 18 → pos MN (i + 1) ≤ pos MN 18 := by
      intro h18
      have hsub : ∀ d a : Nat, pos MN a ≤ pos MN (a + d) := by
        intro d
        induction d with
        | zero => intro a; exact Nat.le_refl _
        | succ d ih =>
          intro a
          refine Nat.le_trans (ih a) ?_
          unfold pos
          rw [show a + (d + 1) = (a + d) + 1 by omega, List.take_add_one, List.sum_append]; omega
      have := hsub (18 - (i + 1)) (i + 1)
      rwa [show i + 1 + (18 - (i + 1)) = 18 by omega] at this
    refine wp_lss_t (by show (i : Int) < 19; omega) ?_
    try(refine zz ?_;(repeat constructor);intro _)
    refine wp_bind ?_
    refine wp_saddr H mv (prs_at hp) fun id off H1 => ?_
    refine wp_loada H1 (List.Mem.head _) (by simp) ?_
    refine wp_tmpN H rfl rfl rfl fun q S8 H => ?_
    have H : Cx B0 W S8 (.sl t 1 (tkl K (rwL 0 (pos MN i))) :: own) (.pt q 0 [I ((pos MN i : Nat) : Int), I (c : Int)] :: ro1) := H
    try(refine zz ?_;(repeat constructor);intro _)
    refine wp_ld (o := 0) H (List.Mem.head _) rfl ?_
    have fin : ∀ {S9 : AH} {w2 : AV}, pos MN (i + 1) ≤ K → Cx B0 W S9 (.sl t 1 (tkl K (rwL 0 (pos MN (i + 1)))) :: own) ro1 → wp EM (.op (.bin .add (I (i : Int)) (I 1)) fun v46 => .ret .normal [v46, w2, I ((pos MN (i + 1) : Nat) : Int)]) S9 fun tg vs1 S1 => (tg = .normal ∧ ∃ u w, vs1 = [I ((i + 1 : Nat) : Int), u, w] ∧ pos MN (i + 1) ≤ K ∧ Cx B0 W S1 (.sl t 1 (tkl K (rwL 0 (pos MN (i + 1)))) :: own) ro1) ∨ (tg ≠ .normal ∧ boundTo EM (some 0) (fun v43 => .ret .ret [I 0]) (fun v43 => [nth v43 1]) (fun tg vs S' => tg = .ret ∧ oneOf vs = (if (K : Int) = r + 3 * C + 1 then I 0 else I 2) ∧ Cx B0 W S' own ro) tg [nth vs1 0, nth vs1 1, nth vs1 2] S1) := by
      intro S9 w2 hk H
      refine wp_add64 (by omega) (by omega) ?_
      exact wp_ret (.inl ⟨rfl, _, _, rfl, hk, H⟩)
    refine wp_bind (wp_loop (wpL_for c (fun i2 vs S' => ∃ u, vs = [I ((pos MN i + i2 : Nat) : Int), u] ∧ pos MN i + i2 ≤ K ∧ Cx B0 W S' (.sl t 1 (tkl K (rwL 0 (pos MN i + i2))) :: own) (.pt q 0 [I ((pos MN i : Nat) : Int), I (c : Int)] :: ro1)) ?_ ?_ ⟨_, rfl, hpk, H⟩))
    · rintro i2 vs S9 hi2 ⟨u2, rfl, hk2, H⟩
      try(refine zz ?_;(repeat constructor);intro _)
      refine wp_ld (o := 0) H (List.Mem.head _) rfl ?_
      try(refine zz ?_;(repeat constructor);intro _)
      refine wp_ld (o := 1) H (List.Mem.head _) rfl ?_
      refine wp_add64 (by omega) (by omega) ?_
      refine wp_lss_t (by omega) ?_
      try(refine zz ?_;(repeat constructor);intro _)
      refine wp_bind ?_
      by_cases hlt : pos MN i + i2 < K
      · refine wp_geq_f (by omega) ?_
        try(refine zz ?_;(repeat constructor);intro _)
        refine wp_saddro H 0 rfl (tkl_get hlt) fun id off hp => ?_
        try(refine zz ?_;(repeat constructor);intro _)
        refine wp_loadF0 hp ?_
        rw [decide_eq_false (fun hx => by have := mem_rwL.1 hx; omega)]
        try(refine zz ?_;(repeat constructor);intro _)
        refine wp_tkset H 0 rfl (by omega) fun S10 H => ?_
        refine wp_ret ?_
        show wp EM _ _ _
        refine wp_add64 (by omega) (by omega) ?_
        refine wp_ret (.inl ⟨rfl, u2, rfl, by omega, ?_⟩)
        rw [show pos MN i + (i2 + 1) = (pos MN i + i2) + 1 by omega, rwL_succ, show (0 : Int) + ((pos MN i + i2 : Nat) : Int) = ((pos MN i + i2 : Nat) : Int) by omega]
        exact H
      · refine wp_geq_t (by omega) ?_
        try(refine zz ?_;(repeat constructor);intro _)
        refine wp_ret (.inr ⟨by simp, ?_⟩)
        refine .inr ⟨by simp, ?_⟩
        refine ⟨rfl, ?_, back (H.dropAt 0).tl⟩
        rw [if_neg (by omega)]; rfl
    · rintro vs S9 ⟨u2, rfl, hk2, H⟩
      try(refine zz ?_;(repeat constructor);intro _)
      refine wp_ld (o := 0) H (List.Mem.head _) rfl ?_
      try(refine zz ?_;(repeat constructor);intro _)
      refine wp_ld (o := 1) H (List.Mem.head _) rfl ?_
      refine wp_add64 (by omega) (by omega) ?_
      refine wp_lss_f (by omega) ?_
      try(refine zz ?_;(repeat constructor);intro _)
      refine wp_ret ⟨by simp, ?_⟩
      show wp EM _ _ _
      refine wp_ret ?_
      show wp EM _ _ _
      rw [← hps] at H hk2 ⊢
      exact fin hk2 H.tl
  · rintro vs S7 ⟨u1, w, rfl, hpk, H⟩
    refine wp_lss_f (by show (19 : Int) ≤ 19; omega) ?_
    try(refine zz ?_;(repeat constructor);intro _)
    refine wp_ret ⟨by simp, ?_⟩
    show wp EM _ _ _
    refine wp_ret ⟨rfl, ?_, back (H.dropAt 0)⟩
    rw [if_pos (by omega)]; rfl
end
end Go.Abs
