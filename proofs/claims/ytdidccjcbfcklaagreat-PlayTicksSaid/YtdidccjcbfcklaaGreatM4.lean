/- functions of this cut: what they compute, in the abstract machine. Conditions: stated in each theorem -/
import Derived.Test.YtdidccjcbfcklaaGreatT
import Derived.Test.YtdidccjcbfcklaaGreatM3
import Derived.Test.YtdidccjcbfcklaaGreatM1
set_option linter.unusedVariables false
set_option linter.unusedSectionVars false
set_option linter.unusedSimpArgs false
set_option linter.unusedSectionVars false
namespace Go.Abs.X
variable [Ek]
open Go.Proofs
set_option maxRecDepth 100000
set_option linter.unusedVariables false

section
variable {M : Mach} {B0 S : AH} {W : List Nat} {own : List Own} {ro : List Fct} {Q : Post} {k : AV → AC} {kc : AC}
/-! ### loads of what is known, by a whole offset -/
theorem wp_ld (H : Cx B0 W S own ro) {id o : Nat} {cs : List AV} {v : AV} (hm : Fct.pt id 0 cs ∈ ro) (hj : cs[o]? = some v) (h : wp M (k v) S Q) : wp M (.op (.load 1 false (.ptr id o)) k) S Q := by
  have := wp_load1 (M := M) (k := k) (off := 0) (j := o) H hm hj h
  rwa [show Nat.add 0 o = o from Nat.zero_add o] at this
theorem wp_ldn (H : Cx B0 W S own ro) {id o n : Nat} {cs : List AV} (hm : Fct.pt id 0 cs ∈ ro) (hj : Nat.ble (o + n) cs.length = true) (h : wp M (k (.agg ((cs.drop o).take n))) S Q) : wp M (.op (.load n true (.ptr id o)) k) S Q := by
  have := wp_loadn (M := M) (k := k) (off := 0) (j := o) H hm (Nat.le_of_ble_eq_true hj) h
  rwa [show Nat.add 0 o = o from Nat.zero_add o] at this
theorem wp_tmpN (H : Cx B0 W S own ro) {z : List AV} {n : Nat} {v : AV} (ho : odd v = false) (hz : z.length = n) (hn : v.cells.length = n) (h : ∀ id S1, Cx B0 W S1 own (.pt id 0 v.cells :: ro) → wp M (k (.ptr id 0)) S1 Q) :
    wp M (.op (.alloc z) fun p => .op (.store n p v) fun _ => k p) S Q := by
  refine wp_alloc H fun id S1 H1 => ?_
  refine wp_store H1 0 (c := z) rfl ho hn (by omega) fun S2 H2 => ?_
  have e : setRange z 0 v.cells = v.cells := by
    rw [setRange_eq, List.take_zero, List.nil_append, Nat.zero_add, List.drop_eq_nil_of_le (by omega), List.append_nil]
  have H2 : Cx B0 W S2 (.obj id (.row (setRange z 0 v.cells)) :: own) ro := H2
  rw [e] at H2
  exact h id S2 (H2.freeze (i := 0) rfl)
theorem wp_notT (h : wp M (k (B false)) S Q) : wp M (.op (.un .not (B true)) k) S Q := wp_op (v := B false) rfl h
theorem wp_notF (h : wp M (k (B true)) S Q) : wp M (.op (.un .not (B false)) k) S Q := wp_op (v := B true) rfl h
theorem wp_not {b : Bool} (h : wp M (k (B (!b))) S Q) : wp M (.op (.un .not (B b)) k) S Q := wp_op (v := B (!b)) rfl h
end
/-! ### where an executive lies -/
structure To where
  nd : Int
  hd : Int
  ht : Int
  ftop : Int
  flinks : Int
  fsize : Int
  gens : Int
  worn : Int
  lim : Int
  eat : Int
  pins : Int
  cores : Int
  tops : Int
def To.cs (t : To) : List AV := [I t.nd, I t.hd, I t.ht, I t.ftop, I t.flinks, I t.fsize, I t.gens, I t.worn, I t.lim, I t.eat, I t.pins, I t.cores, I t.tops]
def To.ok (t : To) : Prop := 1 ≤ t.ht ∧ t.ht ≤ 4 ∧ 1 ≤ t.fsize ∧ t.fsize ≤ 128 ∧ 0 ≤ t.nd ∧ t.nd < 4096 ∧ 0 ≤ t.hd ∧ t.hd < 4096
instance (t : To) : Decidable t.ok := inferInstanceAs (Decidable (_ ∧ _))
theorem sound_ok {S : AH} {t : To} : wpC EM (.fn (.func 113) [] []) [.agg t.cs] S fun r S' => r = B (decide t.ok) ∧ Grows S S' := by
  refine wpC_fn (b := Tryz.a113) rfl rfl ?_
  have H : Cx S [] S [] [] := Cx.enter (by simp)
  rw [Tryz.u113]; unfold To.ok 
  repeat' (first | (first|refine zA ?_|refine zB rfl ?_|refine zC ?_|refine zD ?_|refine zE rfl ?_|refine zF ?_|refine zG ?_|refine zH ?_|refine zI ?_|refine zJ ?_|refine zK ?_|refine zL rfl ?_|refine zN rfl ?_) | refine wp_bind ?_ | refine wp_box (by assumption) rfl fun _ _ _ => ?_ | refine wp_tmpN (by assumption) rfl rfl rfl fun _ _ _ => ?_ | refine wp_ld (by assumption) (by repeat (first | exact List.Mem.head _ | apply List.Mem.tail)) rfl ?_ | refine wp_ldn (by assumption) (by repeat (first | exact List.Mem.head _ | apply List.Mem.tail)) rfl ?_ | refine wp_notT ?_ | refine wp_notF ?_ | (refine wp_ret ?_; show wp EM _ _ _) | refine wp_lss (fun _ => ?_) (fun _ => ?_) | refine wp_gtr (fun _ => ?_) (fun _ => ?_) | refine wp_leq (fun _ => ?_) (fun _ => ?_) | refine wp_geq (fun _ => ?_) (fun _ => ?_) | refine wp_eql (fun _ => ?_) (fun _ => ?_) | refine wp_neq (fun _ => ?_) (fun _ => ?_) | refine wp_add64 (by omega) (by omega) ?_ | refine wp_sub64 (by omega) (by omega) ?_)
  all_goals (first | exact wp_ret ⟨rfl, (congrArg B (decide_eq_true (by omega))).symm, Cx.grows (by assumption)⟩ | exact wp_ret ⟨rfl, (congrArg B (decide_eq_false (by omega))).symm, Cx.grows (by assumption)⟩)
def cellP (a : Int) : Prop := 0 ≤ a ∧ a < 4096
instance (a : Int) : Decidable (cellP a) := inferInstanceAs (Decidable (_ ∧ _))
/-! ### rows of cells -/
theorem nodeCells_ok {S : AH} {h : Int} (h0 : 0 ≤ h) (h1 : h ≤ 4) : wpC EM (.fn (.func 514) [] []) [I h] S fun r S' => r = I (4 + h) ∧ Grows S S' := by
  refine wpC_fn (b := Tryz.a514) rfl rfl ?_
  rw [Tryz.u514]
  exact wp_add64 (by omega) (by omega) (wp_ret ⟨rfl, rfl, Grows.refl _⟩)
theorem nodes_ok {S : AH} {t : To} : wpC EM (.fn (.func 148) [] []) [.agg t.cs] S fun r S' => r = .agg [I t.nd, I t.fsize, I t.ht] ∧ Grows S S' := by
  refine wpC_fn (b := Tryz.a148) rfl rfl ?_
  have H : Cx S [] S [] [] := Cx.enter (by simp)
  rw [Tryz.u148]
  refine wp_fin ?_
  refine wp_box H rfl fun p S1 H => ?_
  refine wp_alloc H fun q S2 H => ?_
  repeat' (first | (first|refine zA ?_|refine zB rfl ?_|refine zC ?_|refine zD ?_|refine zE rfl ?_|refine zF ?_|refine zG ?_|refine zH ?_|refine zI ?_|refine zJ ?_|refine zK ?_|refine zL rfl ?_|refine zN rfl ?_) | refine wp_bind ?_ | refine wp_box (by assumption) rfl fun _ _ _ => ?_ | refine wp_tmpN (by assumption) rfl rfl rfl fun _ _ _ => ?_ | refine wp_ld (by assumption) (by repeat (first | exact List.Mem.head _ | apply List.Mem.tail)) rfl ?_ | refine wp_ldn (by assumption) (by repeat (first | exact List.Mem.head _ | apply List.Mem.tail)) rfl ?_ | refine wp_notT ?_ | refine wp_notF ?_ | (refine wp_ret ?_; show wp EM _ _ _) | refine wp_lss (fun _ => ?_) (fun _ => ?_) | refine wp_gtr (fun _ => ?_) (fun _ => ?_) | refine wp_leq (fun _ => ?_) (fun _ => ?_) | refine wp_geq (fun _ => ?_) (fun _ => ?_) | refine wp_eql (fun _ => ?_) (fun _ => ?_) | refine wp_neq (fun _ => ?_) (fun _ => ?_) | refine wp_add64 (by omega) (by omega) ?_ | refine wp_sub64 (by omega) (by omega) ?_)
  refine wp_op (v := .agg [I t.nd, I t.fsize, I t.ht]) rfl ?_
  refine wp_store H 0 (c := [I 0, I 0, I 0]) rfl rfl rfl (by simp) fun S3 H => ?_
  refine wp_ret ⟨.inr rfl, ?_⟩
  have H : Cx S [] S3 [.obj q (.row [I t.nd, I t.fsize, I t.ht])] [.pt p 0 t.cs] := H
  refine wp_loadoa (n := 3) H 0 rfl (by simp) ?_
  exact wp_ret ⟨rfl, rfl, H.grows⟩
end Go.Abs.X
set_option linter.unusedSectionVars false
namespace Go.Abs.X
variable [Ek]
open Go.Proofs
set_option maxRecDepth 100000
set_option linter.unusedVariables false
open Tsk (Tk tks tchk)
section
variable {M : Mach} {B0 S : AH} {W : List Nat} {own : List Own} {ro : List Fct} {Q : Post} {k : AV → AC} {kc : AC}
theorem wp_mul64 {a b : Int} (h1 : -9223372036854775808 ≤ a * b) (h2 : a * b ≤ 9223372036854775807) (h : wp M (k (I (a * b))) S Q) : wp M (.op (.bin .mul (I a) (I b)) k) S Q := wp_mul (wrap64 h1 h2) h
theorem wp_ck (H : Cx B0 W S own ro) {id o : Nat} {cs : List AV} {v : AV} (hm : Fct.pt id 0 cs ∈ ro) (hj : cs[o]? = some v) (hb : AV.beq v v = true) (h : wp M kc S Q) : wp M (.chk (.load 1 false (.ptr id o)) v kc) S Q := by
  have := wp_chk1 (M := M) (k := kc) (off := 0) (j := o) H hm hj hb h
  rwa [show Nat.add 0 o = o from Nat.zero_add o] at this
theorem wp_gchk_t {g : Bool} {o : AOp} {v : AV} (h : wp M (.chk o v kc) S Q) : wp M (.gchk (B g) g o v kc) S Q := by
  obtain ⟨t, vs, S', ⟨n0, h1⟩, h2⟩ := h
  exact ⟨t, vs, S', ⟨n0, fun n hn => by
    show runGchk M.P (B g) g o v _ S = _
    unfold runGchk
    rw [show gIs (B g) g = some true by cases g <;> rfl]
    exact h1 n hn⟩, h2⟩
theorem wp_lits (H : Cx B0 W S own ro) {n : Nat} {ps : List (Nat × Nat × AV)} (l : List Int) (he : fillP (repZero [I 0] n) ps = some (l.map fun a => I a)) (hn : l.length = n)
    (h : ∀ v S1, Cx B0 W S1 own (.sl v 1 (ints l) :: ro) → wp M (k v) S1 Q) : wp M (.op (.bslice 1 n [I 0] ps) k) S Q := by
  refine wp_op (v := .sl S.next 0 n n) (S1 := S.new (.row (l.map fun a => I a))) ?_ (h _ _ (H.addNewRo (Grows.new S _) (φ := .sl (.sl S.next 0 n n) 1 (ints l)) ?_ ?_))
  · show nBslice 1 n [I 0] ps S = _
    unfold nBslice
    rw [he]
    have e : (Nat.beq (lenL (l.map fun a => I a)) (Nat.mul n 1) && Nat.beq (lenL [I 0]) 1) = true := by
      rw [lenL_eq, List.length_map, hn, show Nat.mul n 1 = n from Nat.mul_one n, Nat.beq_refl]; rfl
    simp only [e]
    rfl
  · refine .inr ⟨S.next, 0, l.map fun a => I a, .inl ⟨n, by rw [ints_len]; omega, by simp [hn], by rw [ints_len, hn]⟩, row_cells (get_new_same _ _), ?_, ?_⟩
    · rw [ints_len, List.drop_zero, List.take_of_length_le (by simp)]
      unfold ints
      clear he hn h
      induction l with
      | nil => rfl
      | cons a r ih => simp only [List.map_cons, List.flatten_cons, ih]; rfl
    · intro x hx
      obtain ⟨a, _, rfl⟩ := List.mem_map.1 hx
      rfl
  · intro id hid
    simp only [Fct.ids, vids, List.mem_singleton] at hid
    subst hid
    exact ⟨Nat.le_refl _, by simp [AH.new]⟩
end
theorem mul_bd {a b A C : Int} (h1 : 0 ≤ a) (h2 : a ≤ A) (h3 : 0 ≤ b) (h4 : b ≤ C) : 0 ≤ a * b ∧ a * b ≤ A * C :=
  ⟨Int.mul_nonneg h1 h3, Int.mul_le_mul h2 h4 h3 (by omega)⟩
/-! ### a cell of a node -/
theorem methNode {v : AV} : methodOf EM.P 267 v "coxswain/tower.cells" = some (514, v) := by kernel_rfl
def atN (a n h i p : Int) : Int := if i < 0 ∨ n ≤ i ∨ p < 0 ∨ 4 + h ≤ p then -1 else a + i * (4 + h) + p
theorem nodeAt_ok {S : AH} {a n h i p : Int} (h0 : 0 ≤ h) (h1 : h ≤ 4) (ha : 0 ≤ a) (ha2 : a < 4096) (hn : n ≤ 128) : wpC EM (.fn (.func 149) [] []) [.agg [I a, I n, I h], I i, I p] S fun r S' => r = I (atN a n h i p) ∧ Grows S S' := by
  refine wpC_fn (b := Tryz.a149) rfl rfl ?_
  have H : Cx S [] S [] [] := Cx.enter (by simp)
  rw [Tryz.u149]; unfold atN 
  repeat' (first | (first | (first|refine zA ?_|refine zB rfl ?_|refine zC ?_|refine zD ?_|refine zE rfl ?_|refine zF ?_|refine zG ?_|refine zH ?_|refine zI ?_|refine zJ ?_|refine zK ?_|refine zL rfl ?_|refine zN rfl ?_) | refine wp_bind ?_ | refine wp_box (by assumption) rfl fun _ _ _ => ?_ | refine wp_tmpN (by assumption) rfl rfl rfl fun _ _ _ => ?_ | refine wp_ld (by assumption) (by repeat (first | exact List.Mem.head _ | apply List.Mem.tail)) rfl ?_ | refine wp_ldn (by assumption) (by repeat (first | exact List.Mem.head _ | apply List.Mem.tail)) rfl ?_ | refine wp_notT ?_ | refine wp_notF ?_ | (refine wp_ret ?_; show wp EM _ _ _) | refine wp_lss (fun _ => ?_) (fun _ => ?_) | refine wp_gtr (fun _ => ?_) (fun _ => ?_) | refine wp_leq (fun _ => ?_) (fun _ => ?_) | refine wp_geq (fun _ => ?_) (fun _ => ?_) | refine wp_eql (fun _ => ?_) (fun _ => ?_) | refine wp_neq (fun _ => ?_) (fun _ => ?_) | refine wp_add64 (by omega) (by omega) ?_ | refine wp_sub64 (by omega) (by omega) ?_) | refine wp_callV (by assumption) (wpC_method methNode (nodeCells_ok h0 h1)) fun _ _ => ?_ | refine wp_ck (by assumption) (by repeat (first | exact List.Mem.head _ | apply List.Mem.tail)) rfl beq_num ?_)
  all_goals try (first | exact wp_ret ⟨rfl, by first | rw [if_pos (by omega)]; rfl | rw [if_neg (by omega)]; rfl, Cx.grows (by assumption)⟩)
  have hm := mul_bd (a := i) (b := 4 + h) (A := 128) (C := 8) (by omega) (by omega) (by omega) (by omega)
  refine wp_mul64 (by omega) (by omega) ?_
  refine wp_add64 (by omega) (by omega) ?_
  refine wp_add64 (by omega) (by omega) ?_
  exact wp_ret ⟨rfl, by rw [if_neg (by omega)]; rfl, Cx.grows (by assumption)⟩
theorem at0_ok {S : AH} {t : To} : wpC EM (.fn (.func 101) [] []) [.agg t.cs, I 0, I 0] S fun r S' => r = I (if t.ok then t.nd else -1) ∧ Grows S S' := by
  refine wpC_fn (b := Tryz.a101) rfl rfl ?_
  have H : Cx S [] S [] [] := Cx.enter (by simp)
  rw [Tryz.u101]
  refine wp_box H rfl fun p S1 H => ?_
  refine wp_bind ?_
  refine wp_ldn H (by repeat (first | exact List.Mem.head _ | apply List.Mem.tail)) rfl ?_
  refine wp_callV H (sound_ok (t := t)) fun S2 H => ?_
  by_cases ht : t.ok
  · rw [decide_eq_true ht, if_pos ht]
    have h0 := ht
    unfold To.ok at ht
    refine wp_notT ?_
    try(refine zz ?_;(repeat constructor);intro _)
    refine wp_neq_t (by omega) ?_
    try(refine zz ?_;(repeat constructor);intro _)
    refine wp_ldn H (by repeat (first | exact List.Mem.head _ | apply List.Mem.tail)) rfl ?_
    refine wp_callV H (nodes_ok (t := t)) fun S3 H => ?_
    refine wp_callV H (nodeAt_ok (by omega) (by omega) (by omega) (by omega) (by omega)) fun S4 H => ?_
    refine wp_ret ⟨rfl, ?_, H.grows⟩
    unfold atN
    rw [if_neg (by omega)]
    have : t.nd + 0 * (4 + t.ht) + 0 = t.nd := by omega
    rw [this]; rfl
  · rw [decide_eq_false ht, if_neg ht]
    refine wp_notF ?_
    try(refine zz ?_;(repeat constructor);intro _)
    exact wp_ret ⟨rfl, rfl, H.grows⟩
/-! ### executives -/
structure Ex where
  t : To
  gfirst : Int
  gmany : Int
  jst : Int
  jkeys : Int
  jtop : Int
  jlinks : Int
  jsize : Int
  mfirst : Int
  mcores : Int
  mroom : Int
  rruns : Int
  rflags : Int
  rcores : Int
  own : Int
  seq : Int
def Ex.cs (e : Ex) (v : AV) : List AV := [I e.t.nd, I e.t.hd, I e.t.ht, I e.t.ftop, I e.t.flinks, I e.t.fsize, I e.t.gens, I e.t.worn, I e.t.lim, I e.t.eat, I e.t.pins, I e.t.cores, I e.t.tops,
  I e.gfirst, I e.gmany, I e.jst, I e.jkeys, I e.jtop, I e.jlinks, I e.jsize, I e.mfirst, I e.mcores, I e.mroom, I e.rruns, I e.rflags, I e.rcores, I e.own, I e.seq, v]
def Ex.ok (e : Ex) (l : List Tk) : Prop := e.t.ok ∧ tchk l = 0 ∧ 0 < l.length ∧ e.gmany = l.length ∧ 1 ≤ e.t.cores ∧ e.t.cores ≤ 64 ∧ e.mcores = e.t.cores ∧ e.rcores = e.t.cores ∧ 1 ≤ e.jsize ∧ e.jsize ≤ 64 ∧ 1 ≤ e.mroom ∧ e.mroom ≤ 16 ∧
  cellP e.gfirst ∧ cellP e.jst ∧ cellP e.jkeys ∧ cellP e.jtop ∧ cellP e.jlinks ∧ cellP e.mfirst ∧ cellP e.rruns ∧ cellP e.rflags ∧ cellP e.own ∧ cellP e.seq
instance (e : Ex) (l : List Tk) : Decidable (e.ok l) := inferInstanceAs (Decidable (_ ∧ _))
def Ex.at10 (e : Ex) : List Int := [e.gfirst, e.jst, e.jkeys, e.jtop, e.jlinks, e.mfirst, e.rruns, e.rflags, e.own, e.seq]
theorem at10_all (e : Ex) : (∀ a ∈ e.at10, cellP a) ↔ (cellP e.gfirst ∧ cellP e.jst ∧ cellP e.jkeys ∧ cellP e.jtop ∧ cellP e.jlinks ∧ cellP e.mfirst ∧ cellP e.rruns ∧ cellP e.rflags ∧ cellP e.own ∧ cellP e.seq) := by
  simp [Ex.at10]
section
variable {B0 S : AH} {W : List Nat} {own : List Own} {ro : List Fct} {Q : Post} {k : AV → AC}
theorem slOk_one {S : AH} {v : AV} {es : Nat} {L : List (List AV)} (h : slOk S v es L) : odd v = false ∧ v.cells = [v] := by
  rcases h with ⟨rfl, _⟩ | ⟨id, off, c, (⟨_, _, _, rfl⟩ | ⟨_, _, _, rfl⟩), _⟩ <;> exact ⟨rfl, rfl⟩
set_option maxHeartbeats 4000000 in
theorem soundE_ok {v : AV} {e : Ex} {l : List Tk} (hv : Fct.sl v 4 (tks l) ∈ ro) (H : Cx B0 W S own ro) : wpC EM (.fn (.func 66) [] []) [.agg (e.cs v)] S fun r S' => r = B (decide (e.ok l)) ∧ Grows S S' := by
  refine wpC_fn (b := Tryz.a66) rfl rfl ?_
  have hv0 : RoSl S v 4 (tks l) := H.roSl hv
  clear H
  have H := Cx.ro1 hv0
  have hT := fun {S1 : AH} {own : List Own} {ro : List Fct} (H : Cx S [] S1 own ro) (hm : Fct.sl v 4 (tks l) ∈ ro) => Tsk.check_ok (l := l) (H.roSl hm)
  rw [Tryz.u66]
  have bad : ∀ (S1 : AH), ¬ e.ok l → Grows S S1 → (Tag.ret = Tag.ret ∧ oneOf [B false] = B (decide (e.ok l)) ∧ Grows S S1) := fun S1 hn hg => ⟨rfl, by rw [decide_eq_false hn]; rfl, hg⟩
  refine wp_box H rfl fun p S1 H => ?_
  try(refine zz ?_;(repeat constructor);intro _)
  refine wp_ld H (by repeat (first | exact List.Mem.head _ | apply List.Mem.tail)) rfl ?_
  try(refine zz ?_;(repeat constructor);intro _)
  refine wp_ldn H (by repeat (first | exact List.Mem.head _ | apply List.Mem.tail)) rfl ?_
  refine wp_callV H (at0_ok (t := e.t)) fun S2 H => ?_
  by_cases ht : e.t.ok
  rotate_left
  · rw [if_neg ht]
    refine wp_lss_t (by omega) ?_
    try(refine zz ?_;(repeat constructor);intro _)
    exact wp_ret (bad _ (fun h => ht h.1) H.grows)
  rw [if_pos ht]
  have ht0 := ht
  unfold To.ok at ht
  refine wp_lss_f (by omega) ?_
  try(refine zz ?_;(repeat constructor);intro _)
  refine wp_ld H (by repeat (first | exact List.Mem.head _ | apply List.Mem.tail)) rfl ?_
  try(refine zz ?_;(repeat constructor);intro _)
  refine wp_callV H (hT H (by repeat (first | exact List.Mem.head _ | apply List.Mem.tail))) fun S3 H => ?_
  try(refine zz ?_;(repeat constructor);intro _)
  refine wp_neq (fun hne => ?_) (fun hz => ?_)
  · try(refine zz ?_;(repeat constructor);intro _)
    exact wp_ret (bad _ (fun h => hne h.2.1) H.grows)
  try(refine zz ?_;(repeat constructor);intro _)
  refine wp_ld H (by repeat (first | exact List.Mem.head _ | apply List.Mem.tail)) rfl ?_
  try(refine zz ?_;(repeat constructor);intro _)
  refine wp_len H (by repeat (first | exact List.Mem.head _ | apply List.Mem.tail)) ?_
  rw [Tsk.tks_len]
  try(refine zz ?_;(repeat constructor);intro _)
  refine wp_eql (fun h0 => ?_) (fun hpos => ?_)
  · try(refine zz ?_;(repeat constructor);intro _)
    exact wp_ret (bad _ (fun h => by have := h.2.2.1; omega) H.grows)
  try(refine zz ?_;(repeat constructor);intro _)
  refine wp_ld H (by repeat (first | exact List.Mem.head _ | apply List.Mem.tail)) rfl ?_
  try(refine zz ?_;(repeat constructor);intro _)
  refine wp_ld H (by repeat (first | exact List.Mem.head _ | apply List.Mem.tail)) rfl ?_
  try(refine zz ?_;(repeat constructor);intro _)
  refine wp_len H (by repeat (first | exact List.Mem.head _ | apply List.Mem.tail)) ?_
  rw [Tsk.tks_len]
  have fin : ∀ (S1 : AH) , ¬ (e.gmany = l.length ∧ 1 ≤ e.t.cores ∧ e.t.cores ≤ 64 ∧ e.mcores = e.t.cores ∧ e.rcores = e.t.cores ∧ 1 ≤ e.jsize ∧ e.jsize ≤ 64 ∧ 1 ≤ e.mroom ∧ e.mroom ≤ 16) → Grows S S1 → (Tag.ret = Tag.ret ∧ oneOf [B false] = B (decide (e.ok l)) ∧ Grows S S1) :=
    fun S1 hn hg => bad S1 (fun h => hn (by unfold Ex.ok at h; omega)) hg
  repeat' (first | exact wp_ret (fin _ (by omega) (Cx.grows (by assumption))) | (refine wp_lits (by assumption) e.at10 rfl rfl fun vl S4 H => ?_) | (first|refine zA ?_|refine zB rfl ?_|refine zC ?_|refine zD ?_|refine zE rfl ?_|refine zF ?_|refine zG ?_|refine zH ?_|refine zI ?_|refine zJ ?_|refine zK ?_|refine zL rfl ?_|refine zN rfl ?_) | refine wp_ld (by assumption) (by repeat (first | exact List.Mem.head _ | apply List.Mem.tail)) rfl ?_ | refine wp_lss (fun _ => ?_) (fun _ => ?_) | refine wp_gtr (fun _ => ?_) (fun _ => ?_) | refine wp_neq (fun _ => ?_) (fun _ => ?_))
  refine wp_len H (by repeat (first | exact List.Mem.head _ | apply List.Mem.tail)) ?_
  rw [ints_len]
  refine wp_bind (wp_loop (wpL_inv (fun m vs S1 => ∃ (i : Nat), vs = [I (i : Int), B false] ∧ i ≤ 10 ∧ m = 10 - i ∧ (∀ a ∈ e.at10.take i, cellP a) ∧ Cx S [] S1 [] [.sl vl 1 (ints e.at10), .pt p 0 (AV.agg (e.cs v)).cells, .sl v 4 (tks l)]) ?_ 10 ⟨0, rfl, by omega, by omega, by simp, H⟩))
  clear H
  rintro m vs S5 ⟨i, rfl, hi, rfl, hall, H⟩
  have hl10 : e.at10.length = 10 := rfl
  refine wp_lss (fun hlt => ?_) (fun hge => ?_)
  · have hlt : i < e.at10.length := by rw [hl10] at hlt ⊢; omega
    try(refine zz ?_;(repeat constructor);intro _)
    refine wp_bind ?_
    refine wp_saddr (i := i) (x := [I e.at10[i]]) H (by repeat (first | exact List.Mem.head _ | apply List.Mem.tail)) (by simp [ints, hlt]) fun q1 o1 H1 => ?_
    refine wp_load0 H1 (by repeat (first | exact List.Mem.head _ | apply List.Mem.tail)) rfl ?_
    replace H := H1.tl
    have out : ¬ cellP e.at10[i] → Tag.ret = Tag.ret ∧ oneOf [B false] = B (decide (e.ok l)) ∧ Grows S S5 := fun hn => bad _ (fun h => hn ((at10_all e).2 (by unfold Ex.ok at h; simp only [h, and_self]) _ (List.getElem_mem hlt))) H.grows
    refine wp_lss (fun h0 => ?_) (fun h0 => ?_)
    · try(refine zz ?_;(repeat constructor);intro _)
      refine wp_ret (.inr ⟨by simp, out (fun h => by unfold cellP at h; omega)⟩)
    try(refine zz ?_;(repeat constructor);intro _)
    refine wp_geq (fun h1 => ?_) (fun h1 => ?_)
    · try(refine zz ?_;(repeat constructor);intro _)
      refine wp_ret (.inr ⟨by simp, out (fun h => by unfold cellP at h; omega)⟩)
    try(refine zz ?_;(repeat constructor);intro _)
    refine wp_ret ?_
    show wp EM _ _ _
    refine wp_add64 (by omega) (by omega) (wp_ret (.inl ⟨rfl, 10 - (i + 1), by omega, i + 1, rfl, by omega, rfl, ?_, H⟩))
    rw [List.take_succ_eq_append_getElem hlt]
    intro a ha
    rcases List.mem_append.1 ha with ha | ha
    · exact hall a ha
    · rw [List.mem_singleton.1 ha]; exact ⟨h0, h1⟩
  · try(refine zz ?_;(repeat constructor);intro _)
    refine wp_ret (.inr ⟨by simp, ?_⟩)
    show wp EM _ _ _
    have : i = 10 := by rw [hl10] at hge; omega
    subst this
    rw [List.take_of_length_le (by rw [hl10]; omega)] at hall
    refine wp_ret ⟨rfl, ?_, H.grows⟩
    have := (at10_all e).1 hall
    rw [decide_eq_true (show e.ok l by unfold Ex.ok; refine ⟨ht0, by omega, by omega, by omega, by omega, by omega, by omega, by omega, by omega, by omega, by omega, by omega, this⟩)]
    rfl
end
end Go.Abs.X
set_option linter.unusedSectionVars false
namespace Go.Abs.X
variable [Ek]
open Go.Proofs
set_option maxRecDepth 100000
set_option linter.unusedVariables false
open Tsk (Tk tks tchk)
/-! ### setups -/
structure Su where
  cores : Int
  jobs : Int
  nodes : Int
  height : Int
  room : Int
  limit : Int
def Su.cs (s : Su) (v : AV) : List AV := [I s.cores, I s.jobs, I s.nodes, I s.height, I s.room, I s.limit, v]
def Su.fine (s : Su) : Prop := 1 ≤ s.cores ∧ s.cores ≤ 64 ∧ 1 ≤ s.jobs ∧ s.jobs ≤ 64 ∧ s.jobs + 1 ≤ s.nodes ∧ s.nodes ≤ 128 ∧ 1 ≤ s.height ∧ s.height ≤ 4 ∧ 1 ≤ s.room ∧ s.room ≤ 16 ∧ 1 ≤ s.limit ∧ s.limit ≤ 4294967295
instance (s : Su) : Decidable s.fine := inferInstanceAs (Decidable (_ ∧ _))
def Su.chk (s : Su) (l : List Tk) : Int := if s.fine then (if tchk l ≠ 0 then tchk l else if l.length = 0 then 2 else 0) else 3
def Su.bd (s : Su) : List (Int × Int × Int) := [(s.cores, 1, 64), (s.jobs, 1, 64), (s.nodes, min s.jobs 64 + 1, 128), (s.height, 1, 4), (s.room, 1, 16), (s.limit, 1, 4294967295)]
theorem Su.bd_all (s : Su) : (∀ b ∈ s.bd, b.2.1 ≤ b.1 ∧ b.1 ≤ b.2.2) ↔ s.fine := by
  simp only [Su.bd, List.mem_cons, List.not_mem_nil, or_false, forall_eq_or_imp, forall_eq]
  unfold Su.fine
  omega
theorem e_min2 (a b : Int) : minmax1 false (I a) (I b) = some (I (min a b)) := by
  show some (AV.sc (.int .i64 (if ltF b a then b else a))) = _
  rw [ltF_eq]
  by_cases h : b < a
  · rw [decide_eq_true h, Int.min_eq_right (by omega)]; rfl
  · rw [decide_eq_false h, Int.min_eq_left (by omega)]; rfl
section
variable {M : Mach} {B0 S : AH} {W : List Nat} {own : List Own} {ro : List Fct} {Q : Post} {k : AV → AC} {kc : AC}
theorem wp_min2 {a b : Int} (h : wp M (k (I (min a b))) S Q) : wp M (.op (.minmax false [I a, I b]) k) S Q := wp_op (v := I (min a b)) (by
  show pur (minmax1 false (I a) (I b) >>= fun x => some x) S = _
  rw [e_min2]; rfl) h
theorem wp_st (H : Cx B0 W S own ro) (i : Nat) {id off n : Nat} {c : List AV} {v : AV} (hi : own[i]? = some (.obj id (.row c))) (ho : odd v = false) (hn : v.cells.length = n) (hl : Nat.ble (off + n) c.length = true)
    (h : ∀ S1, Cx B0 W S1 (own.set i (.obj id (.row (setRange c off v.cells)))) ro → wp M (k uv) S1 Q) : wp M (.op (.store n (.ptr id off) v) k) S Q :=
  wp_store H i hi ho hn (Nat.le_of_ble_eq_true hl) h
theorem wp_cko (H : Cx B0 W S own ro) (i : Nat) {id o : Nat} {c : List AV} {v : AV} (hi : own[i]? = some (.obj id (.row c))) (hj : c[o]? = some v) (hb : AV.beq v v = true) (h : wp M kc S Q) : wp M (.chk (.load 1 false (.ptr id o)) v kc) S Q := by
  refine wp_chk (v' := v) ?_ hb h
  show (match S.cells? id with | some c => mkPart false c o 1 | none => none) = _
  rw [row_cells (H.oh _ (List.mem_of_getElem? hi))]
  exact mkPart_one hj
theorem wp_bslice0 (H : Cx B0 W S own ro) {es : Nat} {z : List AV} (hz : z.length = es) (h : ∀ v S1, Cx B0 W S1 (.sl v es [] :: own) ro → wp M (k v) S1 Q) : wp M (.op (.bslice es 0 z []) k) S Q := by
  refine wp_op (v := .sl S.next 0 0 0) (S1 := S.new (.row [])) ?_ (h _ _ (H.addOwn (Grows.new S _) (x := .sl (.sl S.next 0 0 0) es []) ?_ ?_))
  · show nBslice es 0 z [] S = _
    unfold nBslice
    have e : (Nat.beq (lenL ([] : List AV)) (Nat.mul 0 es) && Nat.beq (lenL z) es) = true := by
      rw [lenL_eq, lenL_eq, hz, Nat.beq_refl, show Nat.mul 0 es = 0 from Nat.zero_mul es]; rfl
    show (match Nat.beq (lenL ([] : List AV)) (Nat.mul 0 es) && Nat.beq (lenL z) es with | true => lay S (.row []) fun id => .sl id 0 0 0 | false => none) = _
    rw [e]; rfl
  · exact .inr ⟨S.next, 0, [], .inl ⟨0, by simp, by simp, rfl⟩, get_new_same _ _, by simp, by simp⟩
  · intro id hid
    simp only [Own.ids, vids, List.mem_singleton] at hid
    subst hid
    exact ⟨Nat.le_refl _, by simp [AH.new]⟩
end
theorem _root_.Go.Abs.Cx.addNilS {B0 S : AH} {W : List Nat} {own : List Own} {ro : List Fct} (H : Cx B0 W S own ro) (es : Nat) : Cx B0 W S (.sl Ns es [] :: own) ro := H.addOwn (Grows.refl S) (.inl ⟨rfl, rfl⟩) (fun id hid => by simp [Own.ids, vids] at hid)
theorem bounds6_ok {S : AH} {s : Su} {v : AV} {l : List Tk} (hj : -9223372036854775808 ≤ s.jobs) (hv : RoSl S v 4 (tks l)) : wpC EM (.fn (.func 112) [] []) [.agg (s.cs v)] S fun r S' => (∃ cs : List AV, r = .agg cs ∧ ∀ i, i < 6 → ∃ x b, (cs.drop (i * 4)).take 4 = [x, I b.1, I b.2.1, I b.2.2] ∧ odd x = false ∧ x.cells = [x] ∧ s.bd[i]? = some b) ∧ Grows S S' := by
  refine wpC_fn (b := Tryz.a112) rfl rfl ?_
  have H := Cx.ro1 hv
  rw [Tryz.u112]
  refine wp_fin ?_
  refine wp_box H rfl fun p S1 H => ?_
  refine wp_alloc H fun q S2 H => ?_
  repeat' (first | (first|refine zA ?_|refine zB rfl ?_|refine zC ?_|refine zD ?_|refine zE rfl ?_|refine zF ?_|refine zG ?_|refine zH ?_|refine zI ?_|refine zJ ?_|refine zK ?_|refine zL rfl ?_|refine zN rfl ?_) | refine wp_ld (by assumption) (by repeat (first | exact List.Mem.head _ | apply List.Mem.tail)) rfl ?_ | refine wp_op (o := .build _ _) rfl ?_ | refine wp_min2 ?_ | refine wp_add64 (by omega) (by omega) ?_)
  refine wp_st H 0 rfl rfl rfl rfl fun S3 H => ?_
  refine wp_ret ⟨.inr rfl, ?_⟩
  refine wp_loadoa (n := 24) H 0 rfl (Nat.le_of_ble_eq_true rfl) ?_
  refine wp_ret ⟨rfl, ⟨_, rfl, ?_⟩, H.grows⟩
  intro i hi
  match i, hi with
  | 0, _ => exact ⟨_, _, rfl, rfl, rfl, rfl⟩
  | 1, _ => exact ⟨_, _, rfl, rfl, rfl, rfl⟩
  | 2, _ => exact ⟨_, _, rfl, rfl, rfl, rfl⟩
  | 3, _ => exact ⟨_, _, rfl, rfl, rfl, rfl⟩
  | 4, _ => exact ⟨_, _, rfl, rfl, rfl, rfl⟩
  | 5, _ => exact ⟨_, _, rfl, rfl, rfl, rfl⟩
  | j + 6, h => exact absurd h (by omega)
section
variable {B0 S : AH} {W : List Nat} {own : List Own} {ro : List Fct} {Q : Post} {k : AV → AC}
theorem wp_aidxA {len es i : Nat} {cs l : List AV} (hi : i < len) (hl : i * es + es ≤ cs.length) (he : (cs.drop (i * es)).take es = l) (h : wp EM (k (.agg l)) S Q) : wp EM (.op (.aidx len es true (.agg cs) (I (i : Int))) k) S Q := by
  refine wp_op (v := .agg l) ?_ h
  have h3 : idx? (I (i : Int)) len = some i := by
    show below i len = some i
    unfold below; rw [ble_t (by omega)]
  show pur (pAidx len es true (.agg cs) (I (i : Int))) S = _
  have : pAidx len es true (.agg cs) (I (i : Int)) = some (.agg l) := by
    show (match idx? (I (i : Int)) len with | some i => mkPart true cs (Nat.mul i es) es | none => none) = _
    rw [h3]
    simp only
    rw [mkPart_agg (by show Nat.mul i es + es ≤ _; exact hl)]
    show some (AV.agg ((cs.drop (i * es)).take es)) = _
    rw [he]
  rw [this]; rfl
theorem checkE_ok {s : Su} {v : AV} {l : List Tk} (hj : -9223372036854775808 ≤ s.jobs) (hv : Fct.sl v 4 (tks l) ∈ ro) (H : Cx B0 W S own ro) : wpC EM (.fn (.func 73) [] []) [.agg (s.cs v)] S fun r S' => r = I (s.chk l) ∧ Grows S S' := by
  refine wpC_fn (b := Tryz.a73) rfl rfl ?_
  have hv0 : RoSl S v 4 (tks l) := H.roSl hv
  clear H
  have H := Cx.ro1 hv0
  rw [Tryz.u73]
  refine wp_box H rfl fun p S1 H => ?_
  refine wp_ldn H (by repeat (first | exact List.Mem.head _ | apply List.Mem.tail)) rfl ?_
  refine wp_callG H (bounds6_ok (s := s) hj (H.roSl (show Fct.sl v 4 (tks l) ∈ _ by repeat (first | exact List.Mem.head _ | apply List.Mem.tail)))) fun r S2 ⟨cs, hr, hcs⟩ H => ?_
  subst hr
  refine wp_bind (wp_loop (wpL_inv (fun m vs S1 => ∃ (i : Nat), vs = [I (i : Int), I 0] ∧ i ≤ 6 ∧ m = 6 - i ∧ (∀ b ∈ s.bd.take i, b.2.1 ≤ b.1 ∧ b.1 ≤ b.2.2) ∧ Cx S [] S1 [] [.pt p 0 (s.cs v), .sl v 4 (tks l)]) ?_ 6 ⟨0, rfl, by omega, by omega, by simp, H⟩))
  clear H
  rintro m vs S5 ⟨i, rfl, hi, rfl, hall, H⟩
  refine wp_lss (fun hlt => ?_) (fun hge => ?_)
  · have hlt : i < 6 := by omega
    obtain ⟨x, b, h1, hx1, hx2, h2⟩ := hcs i hlt
    have hcl : i * 4 + 4 ≤ cs.length := by
      have := congrArg List.length h1
      rw [List.length_take, List.length_drop] at this
      simp at this; omega
    try(refine zz ?_;(repeat constructor);intro _)
    refine wp_bind ?_
    refine wp_aidxA hlt hcl h1 ?_
    refine wp_tmpN H rfl rfl rfl fun q S6 H => ?_
    have H : Cx S [] S6 [] [.pt q 0 [x, I b.1, I b.2.1, I b.2.2], .pt p 0 (s.cs v), .sl v 4 (tks l)] := H
    have hbl : s.bd.length = 6 := rfl
    have hb : s.bd[i]'(by rw [hbl]; exact hlt) = b := by
      have := (List.getElem?_eq_some_iff.1 h2).2; exact this
    have out : ¬ (b.2.1 ≤ b.1 ∧ b.1 ≤ b.2.2) → I 3 = I (s.chk l) := fun hn => by
      unfold Su.chk
      rw [if_neg fun hf => hn ((s.bd_all).2 hf b (List.mem_of_getElem? h2))]
    try(refine zz ?_;(repeat constructor);intro _)
    refine wp_ld H (by repeat (first | exact List.Mem.head _ | apply List.Mem.tail)) rfl ?_
    try(refine zz ?_;(repeat constructor);intro _)
    refine wp_ld H (by repeat (first | exact List.Mem.head _ | apply List.Mem.tail)) rfl ?_
    refine wp_lss (fun h0 => ?_) (fun h0 => ?_)
    · try(refine zz ?_;(repeat constructor);intro _)
      refine wp_ret (.inr ⟨by simp, rfl, out (by omega), H.grows⟩)
    try(refine zz ?_;(repeat constructor);intro _)
    refine wp_ld H (by repeat (first | exact List.Mem.head _ | apply List.Mem.tail)) rfl ?_
    try(refine zz ?_;(repeat constructor);intro _)
    refine wp_ld H (by repeat (first | exact List.Mem.head _ | apply List.Mem.tail)) rfl ?_
    try(refine zz ?_;(repeat constructor);intro _)
    refine wp_gtr (fun h3 => ?_) (fun h3 => ?_)
    · try(refine zz ?_;(repeat constructor);intro _)
      refine wp_ret (.inr ⟨by simp, rfl, out (by omega), H.grows⟩)
    try(refine zz ?_;(repeat constructor);intro _)
    refine wp_ret ?_
    show wp EM _ _ _
    refine wp_add64 (by omega) (by omega) (wp_ret (.inl ⟨rfl, 6 - (i + 1), by omega, i + 1, rfl, by omega, rfl, ?_, H.tl⟩))
    rw [List.take_succ_eq_append_getElem (by rw [hbl]; exact hlt)]
    intro a ha
    rcases List.mem_append.1 ha with ha | ha
    · exact hall a ha
    · rw [List.mem_singleton.1 ha, hb]; exact ⟨h0, h3⟩
  · have : i = 6 := by omega
    subst this
    try(refine zz ?_;(repeat constructor);intro _)
    refine wp_ret (.inr ⟨by simp, ?_⟩)
    show wp EM _ _ _
    rw [List.take_of_length_le (by show s.bd.length ≤ 6; exact Nat.le_refl 6)] at hall
    have hf := (s.bd_all).1 hall
    try(refine zz ?_;(repeat constructor);intro _)
    refine wp_ld H (by repeat (first | exact List.Mem.head _ | apply List.Mem.tail)) rfl ?_
    refine wp_callV H (Tsk.check_ok (l := l) (H.roSl (by repeat (first | exact List.Mem.head _ | apply List.Mem.tail)))) fun S6 H => ?_
    unfold Su.chk
    rw [if_pos hf]
    refine wp_neq (fun hne => ?_) (fun hz => ?_)
    · try(refine zz ?_;(repeat constructor);intro _)
      rw [if_pos hne]
      exact wp_ret ⟨rfl, rfl, H.grows⟩
    try(refine zz ?_;(repeat constructor);intro _)
    rw [if_neg (by omega)]
    refine wp_ld H (by repeat (first | exact List.Mem.head _ | apply List.Mem.tail)) rfl ?_
    refine wp_len H (by repeat (first | exact List.Mem.head _ | apply List.Mem.tail)) ?_
    rw [Tsk.tks_len]
    refine wp_eql (fun h0 => ?_) (fun hpos => ?_)
    · try(refine zz ?_;(repeat constructor);intro _)
      rw [if_pos (by omega)]
      exact wp_ret ⟨rfl, rfl, H.grows⟩
    · try(refine zz ?_;(repeat constructor);intro _)
      rw [if_neg (by omega)]
      exact wp_ret ⟨rfl, rfl, H.grows⟩
theorem tks_all (l : List Tk) : ∀ x ∈ tks l, x.length = 4 := by
  intro x hx
  obtain ⟨y, _, rfl⟩ := List.mem_map.1 hx
  rfl
theorem cloneT_ok {v : AV} {l : List Tk} (hv : RoSl S v 4 (tks l)) (hl : l.length ≤ 100000) : wpC EM (.fn (.func 28) [] []) [v] S fun r S' => Cx S [] S' [.sl r 4 (tks l)] [] := by
  refine wpC_fn (b := Tryz.a28) rfl rfl ?_
  have H := Cx.ro1 hv
  rw [Tryz.u28]
  have some' : v ≠ Ns → evalOp EM.P (.eq 55 false v Ns) S = some (B false, S) := fun hne => by
    rcases hv.1 with ⟨rfl, _⟩ | ⟨id, off, c, (⟨_, _, _, rfl⟩ | ⟨_, _, _, rfl⟩), _⟩
    · exact absurd rfl hne
    · kernel_rfl
    · kernel_rfl
  by_cases hn : v = Ns
  · subst hn
    have h0 : tks l = [] := by
      rcases hv.1 with ⟨_, h⟩ | ⟨id, off, c, (⟨_, _, _, h⟩ | ⟨_, _, _, h⟩), _⟩
      · exact h
      · cases h
      · cases h
    refine wp_op (v := B true) (S1 := S) (by kernel_rfl) ?_
    try(refine zz ?_;(repeat constructor);intro _)
    refine wp_ret ⟨rfl, ?_⟩
    rw [h0]
    rw [h0] at H
    exact (H.addNilS 4).tl
  · refine wp_op (some' hn) ?_
    try(refine zz ?_;(repeat constructor);intro _)
    refine wp_bslice0 H rfl fun u S1 H => ?_
    refine wp_appendR (x := v) (N := tks l) H 0 rfl (by repeat (first | exact List.Mem.head _ | apply List.Mem.tail)) (tks_all l) (by rw [Tsk.tks_len]; unfold maxBytes; simp; omega) (by rw [Tsk.tks_len]; unfold maxLenN; simp; omega) fun v1 S2 H => ?_
    refine wp_ret ⟨rfl, ?_⟩
    exact H.tl
end
/-! ### where the executive of a setup lies -/
def layE (s : Su) (n : Int) : Ex :=
  let N := s.nodes
  let C := s.cores
  let P := s.nodes * (4 + s.height)
  let g := 6 + 2 * N + C + s.height + P
  let j := g + n
  let m := j + 3 * s.jobs + 1
  let r := m + s.cores * (s.room + 2)
  { t := { nd := 6 + 2 * N + C + s.height, hd := 6 + 2 * N + C, ht := s.height, ftop := 0, flinks := 1, fsize := N, gens := 1 + N, worn := 1 + 2 * N, lim := s.limit, eat := 2 + 2 * N, pins := 3 + 2 * N, cores := C, tops := 3 + 2 * N + C },
    gfirst := g, gmany := n, jst := j, jkeys := j + s.jobs, jtop := j + 2 * s.jobs, jlinks := j + 2 * s.jobs + 1, jsize := s.jobs, mfirst := m, mcores := C, mroom := s.room, rruns := r, rflags := r + C, rcores := C, own := r + 2 * C, seq := r + 3 * C }
def layN (s : Su) (n : Int) : Int := (layE s n).seq + 1
theorem lay_bd {s : Su} {l : List Tk} (h : s.chk l = 0) : s.fine ∧ tchk l = 0 ∧ 1 ≤ l.length ∧ l.length ≤ 32 ∧ (0 ≤ s.nodes * (4 + s.height) ∧ s.nodes * (4 + s.height) ≤ 128 * 8) ∧ (0 ≤ s.cores * (s.room + 2) ∧ s.cores * (s.room + 2) ≤ 64 * 18) := by
  unfold Su.chk at h
  by_cases hf : s.fine
  · rw [if_pos hf] at h
    by_cases ht : tchk l ≠ 0
    · rw [if_pos ht] at h; exact absurd h ht
    · rw [if_neg ht] at h
      have ht : tchk l = 0 := Decidable.not_not.1 ht
      have hl : l.length ≤ 32 := by
        unfold Tsk.tchk at ht
        split at ht
        · cases ht
        · omega
      have hp : 1 ≤ l.length := by
        split at h
        · cases h
        · omega
      have hf' := hf
      unfold Su.fine at hf'
      exact ⟨hf, ht, hp, hl, mul_bd (by omega) (by omega) (by omega) (by omega), mul_bd (by omega) (by omega) (by omega) (by omega)⟩
  · rw [if_neg hf] at h; cases h
theorem tupE {c c' : List AV} {a b : Int} (h : c = c') (h2 : a = b) : AV.tup [.agg c, I a, I 0] = .tup [.agg c', I b, I 0] := by rw [h, h2]
theorem Ex.beq_sl {S : AH} {v : AV} {es : Nat} {L : List (List AV)} (hv : slOk S v es L) : AV.beq v v = true := by
  rcases hv with ⟨rfl, _⟩ | ⟨id, off, c, (⟨cap, _, _, rfl⟩ | ⟨cap, _, _, rfl⟩), _⟩
  · rfl
  · show (Nat.beq id id && Nat.beq off off && Nat.beq L.length L.length && Nat.beq cap cap) = true
    simp only [Nat.beq_refl, Bool.and_self]
  · show (Nat.beq id id && Nat.beq off off && Nat.beq L.length L.length && Nat.beq cap cap && Nat.beq es es) = true
    simp only [Nat.beq_refl, Bool.and_self]
theorem consI {a b : Int} {l m : List AV} (h : a = b) (h2 : l = m) : I a :: l = I b :: m := by rw [h, h2]
section
variable {B0 S : AH} {W : List Nat} {own : List Own} {ro : List Fct} {Q : Post} {k : AV → AC}
theorem wp_next {x at' res : Nat} {u : AV} {es : Nat} {L : List (List AV)} {r z : AO} {a n : Int} (H : Cx B0 W S [.obj x r, .sl u es L, .obj at' (.row [I a]), .obj res z] ro) (h1 : -9223372036854775808 ≤ a + n) (h2 : a + n ≤ 9223372036854775807) (h3 : -9223372036854775808 ≤ a) (h4 : a ≤ 9223372036854775807)
    (h : ∀ S1, Cx B0 W S1 [.obj x r, .sl u es L, .obj at' (.row [I (a + n)]), .obj res z] ro → wp EM (k (I a)) S1 Q) : wp EM (.call (.fn (.func 74) [] [.ptr at' 0]) [I n] k) S Q := by
  refine wp_call (wpC_fn (b := Tryz.a74) rfl rfl ?_)
  rw [Tryz.u74]
  refine wp_loado H 2 rfl rfl ?_
  refine wp_add64 h1 h2 ?_
  refine wp_st H 2 rfl rfl rfl rfl fun S1 H => ?_
  have H : Cx B0 W S1 [.obj x r, .sl u es L, .obj at' (.row [I (a + n)]), .obj res z] ro := H
  refine wp_loado H 2 rfl rfl ?_
  refine wp_sub64 (by omega) (by omega) ?_
  refine wp_ret ⟨rfl, ?_⟩
  show wp EM (k (I (a + n - n))) S1 Q
  rw [show a + n - n = a by omega]
  exact h S1 H
theorem e_buildT {u : AV} {es : Nat} {L : List (List AV)} (hs : slOk S u es L) : evalOp EM.P (.build [I 0, I 0, I 0, I 0, I 0, I 0, I 0, I 0, I 0, I 0, I 0, I 0, I 0, I 0, I 0, I 0, I 0, I 0, I 0, I 0, I 0, I 0, I 0, I 0, I 0, I 0, I 0, I 0, Ns] [(28, 1, u)]) S = some (.agg [I 0, I 0, I 0, I 0, I 0, I 0, I 0, I 0, I 0, I 0, I 0, I 0, I 0, I 0, I 0, I 0, I 0, I 0, I 0, I 0, I 0, I 0, I 0, I 0, I 0, I 0, I 0, I 0, u], S) := by
  rcases hs with ⟨rfl, _⟩ | ⟨id, off, c, (⟨_, _, _, rfl⟩ | ⟨_, _, _, rfl⟩), _⟩ <;> rfl
def zeroE (v : AV) : List AV := [I 0, I 0, I 0, I 0, I 0, I 0, I 0, I 0, I 0, I 0, I 0, I 0, I 0, I 0, I 0, I 0, I 0, I 0, I 0, I 0, I 0, I 0, I 0, I 0, I 0, I 0, I 0, I 0, v]
def layR (s : Su) (l : List Tk) (u r : AV) : Prop := (s.chk l ≠ 0 ∧ u = Ns ∧ r = .tup [.agg (zeroE Ns), I 0, I (s.chk l)]) ∨ (s.chk l = 0 ∧ r = .tup [.agg ((layE s l.length).cs u), I (layN s l.length), I 0])
set_option maxHeartbeats 4000000 in
theorem layout_ok {s : Su} {v : AV} {l : List Tk} (hj : -9223372036854775808 ≤ s.jobs) (hv : RoSl S v 4 (tks l)) : wpC EM (.fn (.func 41) [] []) [.agg (s.cs v)] S fun r S' => ∃ u, layR s l u r ∧ Cx S [] S' [.sl u 4 (if s.chk l = 0 then tks l else [])] [] := by
  refine wpC_fn (b := Tryz.a41) rfl rfl ?_
  have H := Cx.ro1 hv
  rw [Tryz.u41]; unfold layR 
  refine wp_fin ?_
  refine wp_box H rfl fun p S1 H => ?_
  refine wp_alloc H fun q S2 H => ?_
  refine wp_ldn H (by repeat (first | exact List.Mem.head _ | apply List.Mem.tail)) rfl ?_
  refine wp_callV H (checkE_ok (s := s) (l := l) hj (by repeat (first | exact List.Mem.head _ | apply List.Mem.tail)) H) fun S3 H => ?_
  refine wp_neq (fun hne => ?_) (fun hz => ?_)
  · try(refine zz ?_;(repeat constructor);intro _)
    refine wp_op (o := .build _ _) rfl ?_
    refine wp_st H 0 rfl rfl rfl rfl fun S4 H => ?_
    refine wp_ret ⟨.inr rfl, ?_⟩
    refine wp_loadoa (n := 29) H 0 rfl (Nat.le_of_ble_eq_true rfl) ?_
    refine wp_ret ⟨rfl, Ns, .inl ⟨hne, rfl, rfl⟩, ?_⟩
    rw [if_neg hne]
    exact ((H.dropAt 0).addNilS 4).dropRo (by simp)
  obtain ⟨hf, ht, hp, hl, hb1, hb2⟩ := lay_bd hz
  have hf0 := hf
  unfold Su.fine at hf
  rw [if_pos hz]
  try(refine zz ?_;(repeat constructor);intro _)
  refine wp_alloc H fun at' S4 H => ?_
  refine wp_st H 0 rfl rfl rfl rfl fun S5 H => ?_
  have H : Cx S [] S5 [.obj at' (.row [I 0]), .obj q (.row (zeroE Ns))] [.pt p 0 (s.cs v), .sl v 4 (tks l)] := H
  try(refine zz ?_;(repeat constructor);intro _)
  refine wp_ld H (by repeat (first | exact List.Mem.head _ | apply List.Mem.tail)) rfl ?_
  refine wp_callN H (cloneT_ok (l := l) (H.roSl (by repeat (first | exact List.Mem.head _ | apply List.Mem.tail))) (by omega)) fun u S6 H => ?_
  refine wp_op (e_buildT (ownSl_ok (H.oh _ (List.Mem.head _)))) ?_
  refine wp_alloc H fun x S7 H => ?_
  refine wp_st H 0 rfl rfl rfl rfl fun S8 H => ?_
  have H : Cx S [] S8 [.obj x (.row (zeroE u)), .sl u 4 (tks l), .obj at' (.row [I 0]), .obj q (.row (zeroE Ns))] [.pt p 0 (s.cs v), .sl v 4 (tks l)] := H
  repeat' (first | (first|refine zA ?_|refine zB rfl ?_|refine zC ?_|refine zD ?_|refine zE rfl ?_|refine zF ?_|refine zG ?_|refine zH ?_|refine zI ?_|refine zJ ?_|refine zK ?_|refine zL rfl ?_|refine zN rfl ?_) | refine wp_ld (by assumption) (by repeat (first | exact List.Mem.head _ | apply List.Mem.tail)) rfl ?_ | refine wp_len (by assumption) (show Fct.sl v 4 (tks l) ∈ _ by repeat (first | exact List.Mem.head _ | apply List.Mem.tail)) ?_ | rw [Tsk.tks_len] | refine wp_next (by assumption) (by omega) (by omega) (by omega) (by omega) fun _ _ => ?_ | refine wp_ck (by assumption) (by repeat (first | exact List.Mem.head _ | apply List.Mem.tail)) rfl beq_num ?_ | refine wp_ck (by assumption) (by repeat (first | exact List.Mem.head _ | apply List.Mem.tail)) rfl (Ex.beq_sl (Cx.rh (by assumption) _ (show Fct.sl v 4 (tks l) ∈ _ by repeat (first | exact List.Mem.head _ | apply List.Mem.tail)))) ?_ | refine wp_st (by assumption) 0 rfl rfl rfl rfl fun _ _ => ?_ | refine wp_add64 (by omega) (by omega) ?_ | refine wp_mul64 (by omega) (by omega) ?_)
  refine wp_loadoa (n := 29) (by assumption) 0 rfl (Nat.le_of_ble_eq_true rfl) ?_
  refine wp_loado (by assumption) 2 rfl rfl ?_
  refine wp_st (by assumption) 3 rfl rfl rfl rfl fun S9 H9 => ?_
  refine wp_cko H9 2 rfl rfl beq_num ?_
  refine wp_ret ⟨.inr rfl, ?_⟩
  refine wp_loadoa (n := 29) H9 3 rfl (Nat.le_of_ble_eq_true rfl) ?_
  refine wp_ret ⟨rfl, u, .inr ⟨hz, tupE ?_ ?_⟩, (((H9.dropAt 0).dropAt 1).dropAt 1).dropRo (by simp)⟩
  · unfold Ex.cs
    repeat' (refine consI (by unfold layE; dsimp only <;> omega) ?_)
    rfl
  · unfold layN layE; dsimp only <;> omega
end
end Go.Abs.X
set_option linter.unusedSectionVars false
namespace Go.Abs.X
variable [Ek]
open Go.Proofs
set_option maxRecDepth 100000
set_option linter.unusedVariables false
def Fv (v : AV) : Prop := odd v = false ∧ v.cells = [v]
theorem fvFn {f : Go.Fn} {a b : List AV} : Fv (.fn f a b) := ⟨rfl, rfl⟩
theorem fvNf : Fv Nf := ⟨rfl, rfl⟩
theorem setRange_one {x : List AV} {c : AV} {j : Nat} (hj : j < x.length) : setRange x j [c] = x.set j c := by
  apply List.ext_getElem?
  intro i
  rw [setRange_get (by simp; omega), List.getElem?_set]
  by_cases h : j = i
  · subst h; simp [hj]
  · rw [if_neg (by simp; omega), if_neg h]
section
variable {B0 S : AH} {W : List Nat} {own : List Own} {ro : List Fct} {Q : Post} {k : AV → AC} {v : AV}
theorem _root_.Go.Abs.Cx.permS (H : Cx B0 W S own ro) {own' : List Own} (h : own.Perm own') : Cx B0 W S own' ro where
  next := H.next
  old := H.old
  oh := fun x hx => H.oh x (h.mem_iff.2 hx)
  oi := fun x hx => H.oi x (h.mem_iff.2 hx)
  od := (h.pairwise_iff (fun {x y} hxy id hy hx => hxy id hx hy)).1 H.od
  rh := H.rh
  ri := fun φ hφ id hid => ⟨(H.ri φ hφ id hid).1, fun x hx => (H.ri φ hφ id hid).2 x (h.mem_iff.2 hx)⟩

/-! ### functions that are known without a body -/
theorem wp_row {M : Mach} (H : Cx B0 W S own ro) (n : Nat) {id j : Nat} {c : List AV} {v : AV} (hm : own[n]? = some (.obj id (.row c))) (hj : c[j]? = some v) (h : wp M (k v) S Q) : wp M (.op (.load 1 false (.ptr id j)) k) S Q := wp_loado H n hm hj h
theorem wp_set1 {M : Mach} (H : Cx B0 W S own ro) (n : Nat) {id j : Nat} {c : List AV} {v : AV} (hm : own[n]? = some (.obj id (.row c))) (hj : j < c.length) (hv : Fv v) (h : ∀ S1, Cx B0 W S1 (own.set n (.obj id (.row (c.set j v)))) ro → wp M (k uv) S1 Q) :
    wp M (.op (.store 1 (.ptr id j) v) k) S Q :=
  wp_store H n hm hv.1 (by rw [hv.2]; rfl) (by omega) fun S1 H1 => h S1 (by rw [hv.2, setRange_one hj] at H1; exact H1)
theorem slW_len {M : Mach} {S : AH} {v : AV} {es : Nat} {L : List (List AV)} (h : slW S v es L) (S1 : AH) : evalOp M.P (.len false v) S1 = some (I (L.length : Nat), S1) := by
  rcases h with ⟨rfl, rfl⟩ | ⟨id, off, c, h1, h2, h3, h4⟩
  · rfl
  · rcases h1 with ⟨cap, _, _, rfl⟩ | ⟨cmin, _, _, rfl⟩ <;> rfl
theorem wp_loadF0 {M : Mach} {id off : Nat} {e : AV} (hp : (Fct.pt id off [e]).holds S) (h : wp M (k e) S Q) : wp M (.op (.load 1 false (.ptr id off)) k) S Q := by
  obtain ⟨c, h1, h2⟩ := pt_get (j := 0) hp rfl
  exact wp_op (e_load1 h1 h2) h
def vals (L : List AV) : List (List AV) := L.map fun e => [e]
end
theorem e_ptrNil {M : Mach} {S : AH} {t id off : Nat} {n : Bool} (ht : typc M.P t = 1) : evalOp M.P (.eq t n (.ptr id off) Np) S = some (B n, S) := by
  show pur (pEq M.P t n (.ptr id off) Np) S = _
  have : aeq M.P t (.ptr id off) Np = some false := by
    unfold aeq
    rw [ht]
    rfl
  unfold pEq
  rw [this]
  cases n <;> rfl
section
variable {M : Mach} {B0 S : AH} {W : List Nat} {own : List Own} {ro : List Fct} {Q : Post}
theorem wp_rngX (H : Cx B0 W S own ro) {m : Nat} {f : AV} {body : List AV → AC} {kk : AC} {outs : List AV} (hf : ∀ i, f ≠ .yd i) (Done : Option Tag → AH → Prop)
    (hc : ∀ l S1, Cx B0 W S1 (.obj l (.loop .ready none m body) :: own) ro → wpC M f [.yd l] S1 fun _ S' => ∃ st p m' b', S'.get l = some (.loop st p m' b') ∧ st ≠ .busy ∧ ∀ S2, S2.next = S'.next → (∀ j, j ≠ l → S2.get j = S'.get j) → Done p S2)
    (h : ∀ S2, Done none S2 → wp M kk S2 Q) (h' : ∀ t S2, Done (some t) S2 → Q t outs S2) : wp M (.rng m f body kk outs) S Q := by
  refine wp_rng hf (wpC_mono (hc S.next _ (H.addOwn (Grows.new S _) (get_new_same _ _) ?_)) fun v S' ⟨st, p, m', b', h1, h2, h3⟩ => ⟨st, p, m', b', h1, h2, ?_⟩)
  · intro j hj
    simp only [Own.ids, List.mem_singleton] at hj
    subst hj
    exact ⟨Nat.le_refl _, by simp⟩
  · have key := h3 (S'.set S.next (.loop .exhausted p m' b')) rfl fun j hj => by rw [AH.get_set, if_neg hj]
    cases p with
    | none => exact h _ key
    | some t => exact h' t _ key
theorem wpC_ydX (H : Cx B0 W S own ro) (n : Nat) {l m : Nat} {args : List AV} {body : List AV → AC} {R : AV → AH → Prop} (hm : own[n]? = some (.obj l (.loop .ready none m body))) (hl : args.length = m)
    (h : wp M (body (.yd l :: args)) S fun t _ S' => ∃ own' ro', Cx B0 W S' own' ro' ∧ own'[n]? = some (.obj l (.loop .busy none m body)) ∧
      ((t = .normal ∧ ∀ S2, Cx B0 W S2 (own'.set n (.obj l (.loop .ready none m body))) ro' → R (B true) S2) ∨ (t ≠ .normal ∧ ∀ S2, Cx B0 W S2 (own'.set n (.obj l (.loop .done (some t) m body))) ro' → R (B false) S2))) :
    wpC M (.yd l) args S R := by
  refine wpC_yd (H.oh _ (List.mem_of_getElem? hm)) hl (wp_mono h fun t vs S' q => ?_)
  obtain ⟨own', ro', H', hm', hR⟩ := q
  refine ⟨none, m, body, H'.oh _ (List.mem_of_getElem? hm'), ?_⟩
  rcases hR with ⟨rfl, hR⟩ | ⟨ht, hR⟩
  · exact hR _ (H'.setOb hm' _)
  · cases t with
    | normal => exact absurd rfl ht
    | _ => exact hR _ (H'.setOb hm' _)
end
/-! ### mailboxes -/
def mailP (a n r : Int) : Prop := 1 ≤ n ∧ n ≤ 64 ∧ 1 ≤ r ∧ r ≤ 16
instance (a n r : Int) : Decidable (mailP a n r) := inferInstanceAs (Decidable (_ ∧ _))
def mailQ (a n r : Int) : Prop := mailP a n r ∧ 0 ≤ a ∧ a < 4096
instance (a n r : Int) : Decidable (mailQ a n r) := inferInstanceAs (Decidable (_ ∧ _))
theorem sizedM_ok {S : AH} {a n r : Int} : wpC EM (.fn (.func 119) [] []) [.agg [I a, I n, I r]] S fun r' S' => r' = B (decide (mailP a n r)) ∧ Grows S S' := by
  refine wpC_fn (b := Tryz.a119) rfl rfl ?_
  have H : Cx S [] S [] [] := Cx.enter (by simp)
  rw [Tryz.u119]; unfold mailP 
  repeat' (first | (first|refine zA ?_|refine zB rfl ?_|refine zC ?_|refine zD ?_|refine zE rfl ?_|refine zF ?_|refine zG ?_|refine zH ?_|refine zI ?_|refine zJ ?_|refine zK ?_|refine zL rfl ?_|refine zN rfl ?_) | refine wp_bind ?_ | refine wp_box (by assumption) rfl fun _ _ _ => ?_ | refine wp_tmpN (by assumption) rfl rfl rfl fun _ _ _ => ?_ | refine wp_ld (by assumption) (by repeat (first | exact List.Mem.head _ | apply List.Mem.tail)) rfl ?_ | refine wp_ldn (by assumption) (by repeat (first | exact List.Mem.head _ | apply List.Mem.tail)) rfl ?_ | refine wp_notT ?_ | refine wp_notF ?_ | (refine wp_ret ?_; show wp EM _ _ _) | refine wp_lss (fun _ => ?_) (fun _ => ?_) | refine wp_gtr (fun _ => ?_) (fun _ => ?_) | refine wp_leq (fun _ => ?_) (fun _ => ?_) | refine wp_geq (fun _ => ?_) (fun _ => ?_) | refine wp_eql (fun _ => ?_) (fun _ => ?_) | refine wp_neq (fun _ => ?_) (fun _ => ?_) | refine wp_add64 (by omega) (by omega) ?_ | refine wp_sub64 (by omega) (by omega) ?_)
  all_goals (first | exact wp_ret ⟨rfl, (congrArg B (decide_eq_true (by omega))).symm, Cx.grows (by assumption)⟩ | exact wp_ret ⟨rfl, (congrArg B (decide_eq_false (by omega))).symm, Cx.grows (by assumption)⟩)
def ringAt (a r c : Int) : Int := a + c * (r + 2)
def ringCs (a r c : Int) : List AV := [I (ringAt a r c), I (ringAt a r c + 1), I (ringAt a r c + 2), I r]
theorem ringAt_bd {a n r c : Int} (h : mailQ a n r) (h0 : 0 ≤ c) (h1 : c < n) : 0 ≤ c * (r + 2) ∧ c * (r + 2) ≤ 1152 ∧ 0 ≤ ringAt a r c ∧ ringAt a r c ≤ 5247 := by
  unfold mailQ mailP at h
  have := mul_bd (a := c) (b := r + 2) (A := 64) (C := 18) (by omega) (by omega) (by omega) (by omega)
  unfold ringAt; omega
end Go.Abs.X
set_option linter.unusedSectionVars false
namespace Go.Abs.X
variable [Ek]
open Go.Proofs
set_option maxRecDepth 100000
set_option linter.unusedVariables false
/-! ### memories -/
structure Me where
  ws : List Int
  kind : Int
  at' : Int
  old : Int
  new : Int
  held : Bool
  n : Int
def Me.last (x : Me) : List AV := [I x.kind, I x.at', U x.old, U x.new, B x.held]
def Me.prow (x : Me) (bl : Nat) : List AV := .ptr bl 0 :: I x.ws.length :: (x.last ++ [I x.n])
def Me.has (x : Me) (a : Int) : Prop := 0 ≤ a ∧ a < x.ws.length
instance (x : Me) (a : Int) : Decidable (x.has a) := inferInstanceAs (Decidable (_ ∧ _))

def Me.word (x : Me) (a : Int) : Int := if x.has a then x.ws[a.toNat]?.getD 0 else 0
def Me.acc (x : Me) (kind a w : Int) (held : Bool) : Me := if x.has a then ⟨x.ws.set a.toNat w, kind, a, x.word a, w, held, x.n + 1⟩ else ⟨x.ws, kind, a, 0, 0, false, x.n + 1⟩
def pMem (m bl : Nat) (x : Me) (rest : List AV) : List Own := [.obj m (.row (x.prow bl)), .obj bl (.row (x.ws.map U ++ rest))]
def Me.wf (x : Me) : Prop := 1 ≤ x.ws.length ∧ x.ws.length ≤ 4096 ∧ 0 ≤ x.n ∧ x.n ≤ 1152921504606846976
theorem Me.word_eq {x : Me} {a : Nat} {w : Int} (h : x.ws[a]? = some w) : x.word (a : Int) = w := by
  have := (List.getElem?_eq_some_iff.1 h).1
  unfold Me.word
  rw [if_pos (show x.has a from ⟨by omega, by omega⟩), Int.toNat_natCast, h]; rfl
theorem slOk_odd1 {S : AH} {v : AV} {es : Nat} {L : List (List AV)} (h : slOk S v es L) : odd v = false ∧ v.cells = [v] := by
  rcases h with ⟨rfl, _⟩ | ⟨id, off, c, h0, _⟩
  · exact ⟨rfl, rfl⟩
  · rcases h0 with ⟨_, _, _, rfl⟩ | ⟨_, _, _, rfl⟩ <;> exact ⟨rfl, rfl⟩
section
variable {B0 S : AH} {W : List Nat} {own R : List Own} {ro : List Fct} {Q : Post} {k : AV → AC} {v : AV} {m bl w : Nat} {x : Me} {rest : List AV}
theorem wp_paddr {M : Mach} {len es id o i : Nat} (hi : i < len) (h : wp M (k (.ptr id (o + i * es))) S Q) : wp M (.op (.paddr len es (.ptr id o) (I (i : Int))) k) S Q := by
  refine wp_op (v := .ptr id (o + i * es)) ?_ h
  have h3 : idx? (I (i : Int)) len = some i := by
    show below i len = some i
    unfold below; rw [ble_t (by omega)]
  show pur (pPaddr len es (.ptr id o) (I (i : Int))) S = _
  unfold pPaddr
  simp only [h3]
  rfl
theorem wp_mkslice1 {M : Mach} {z : AV} {bytes n : Nat} (H : Cx B0 W S own ro) (hb : bytes * n ≤ 140737488355328) (hn : n ≤ 9223372036854775807)
    (h : ∀ t S1, Cx B0 W S1 (.sl t 1 (List.replicate n [z]) :: own) ro → wp M (k t) S1 Q) : wp M (.op (.mkslice 1 bytes [z] (I (n : Int)) (I (n : Int))) k) S Q := by
  have hz : ∀ m : Nat, repZero [z] m = List.replicate m z := by
    intro m
    induction m with
    | zero => rfl
    | succ m ih =>
      show appL [z] (repZero [z] m) = _
      rw [ih, appL_eq]; rfl
  have hnat : nat? (n : Int) = some n := by
    unfold nat?
    rfl
  refine wp_op (v := .sl S.next 0 n n) (S1 := S.new (.row (List.replicate n z))) ?_ (h _ _ (H.addOwn (Grows.new S _) (.inr ⟨S.next, 0, List.replicate n z, .inl ⟨n, by simp, by simp, by simp⟩, get_new_same _ _, ?_, ?_⟩) ?_))
  · show nMkslice 1 bytes [z] (I (n : Int)) (I (n : Int)) S = _
    unfold nMkslice
    simp only [asInt, vInt, hnat]
    have e : (Nat.ble n n && Nat.ble (Nat.mul bytes n) 140737488355328 && Nat.ble n 9223372036854775807 && Nat.beq (lenL [z]) 1) = true := by
      have hb' : Nat.ble (Nat.mul bytes n) 140737488355328 = true := ble_t hb
      rw [ble_t (Nat.le_refl n), hb', ble_t hn]; rfl
    rw [e, hz]
    rfl
  · have : ∀ m : Nat, (List.replicate m [z]).flatten = List.replicate m z := by
      intro m
      induction m with
      | zero => rfl
      | succ m ih => rw [List.replicate_succ, List.flatten_cons, ih]; rfl
    rw [this]; simp
  · intro x hx
    rw [(List.mem_replicate.1 hx).2]; rfl
  · intro j hj
    simp only [Own.ids, vids, List.mem_singleton] at hj
    subst hj
    simp
/-! ### the program's -/
theorem cell_ok' {a : Int} (hx : x.wf) (H : Cx B0 W S (pMem m bl x rest ++ R) ro) : wpC EM (.fn (.func 122) [] []) [.ptr m 0, I a] S fun r S' => r = (if x.has a then .ptr bl a.toNat else Np) ∧ S' = S := by
  refine wpC_fn (b := Tryz.a122) rfl rfl ?_
  rw [Tryz.u122]
  unfold Me.wf at hx
  refine wp_op (e_ptrNil (by kernel_rfl)) ?_
  try(refine zz ?_;(repeat constructor);intro _)
  refine wp_row (j := 0) H 0 rfl rfl ?_
  try(refine zz ?_;(repeat constructor);intro _)
  refine wp_op (e_ptrNil (by kernel_rfl)) ?_
  try(refine zz ?_;(repeat constructor);intro _)
  refine wp_lss (fun h0 => ?_) (fun h0 => ?_)
  · try(refine zz ?_;(repeat constructor);intro _)
    exact wp_ret ⟨rfl, by rw [if_neg (fun h => by have := h.1; omega)]; rfl, rfl⟩
  try(refine zz ?_;(repeat constructor);intro _)
  refine wp_row (j := 1) H 0 rfl rfl ?_
  try(refine zz ?_;(repeat constructor);intro _)
  refine wp_geq (fun h1 => ?_) (fun h1 => ?_)
  · try(refine zz ?_;(repeat constructor);intro _)
    exact wp_ret ⟨rfl, by rw [if_neg (fun h => by have := h.2; omega)]; rfl, rfl⟩
  try(refine zz ?_;(repeat constructor);intro _)
  refine wp_row (j := 0) H 0 rfl rfl ?_
  try(refine zz ?_;(repeat constructor);intro _)
  obtain ⟨n, rfl⟩ : ∃ n : Nat, a = (n : Int) := ⟨a.toNat, by omega⟩
  refine wp_paddr (i := n) (by omega) ?_
  refine wp_ret ⟨rfl, ?_, rfl⟩
  rw [if_pos ⟨by omega, by omega⟩]
  have e : 0 + n * 1 = n := by omega
  rw [e, Int.toNat_natCast]; rfl
theorem blk_get {a : Nat} {z : Int} (h : x.ws[a]? = some z) : (x.ws.map U ++ rest)[a]? = some (U z) := by
  have := (List.getElem?_eq_some_iff.1 h).1
  rw [List.getElem?_append_left (by simpa using this), List.getElem?_map, h]; rfl
theorem blk_set {a : Nat} {z : Int} (h : a < x.ws.length) : (x.ws.map U ++ rest).set a (U z) = (x.ws.set a z).map U ++ rest := by
  rw [List.set_append_left _ _ (by simpa using h), List.map_set]
theorem isPlace_N : wpC EM (.fn (.func 170) [] []) [Np] S fun r S' => r = B false ∧ S' = S := by
  refine wpC_fn (b := Tryz.a170) rfl rfl ?_
  rw [Tryz.u170]
  refine wp_op (S1 := S) (v := B false) (by kernel_rfl) ?_
  exact wp_ret ⟨rfl, rfl, rfl⟩
theorem isPlace_p {id o : Nat} : wpC EM (.fn (.func 170) [] []) [.ptr id o] S fun r S' => r = B true ∧ S' = S := by
  refine wpC_fn (b := Tryz.a170) rfl rfl ?_
  rw [Tryz.u170]
  refine wp_op (e_ptrNil (by kernel_rfl)) ?_
  exact wp_ret ⟨rfl, rfl, rfl⟩
def blk (x : Me) (rest : List AV) : List AV := x.ws.map U ++ rest
theorem do_ok' {kind a z : Int} {held : Bool} {how : AV} (hx : x.wf) (H : Cx B0 W S (pMem m bl x rest ++ R) ro)
    (hhow : x.has a → ∀ {S1 : AH} {R1 : List Own}, Cx B0 W S1 (.obj bl (.row (blk x rest)) :: R1) ro → wpC EM how [] S1 fun r S' => r = .tup [U z, B held] ∧ Cx B0 W S' (.obj bl (.row (blk x rest)) :: R1) ro) :
    wpC EM (.fn (.func 123) [] []) [.ptr m 0, I kind, I a, (if x.has a then .ptr bl a.toNat else Np), how] S fun r S' => r = .agg (x.acc kind a z held).last ∧ Cx B0 W S' (pMem m bl (x.acc kind a z held) rest ++ R) ro := by
  refine wpC_fn (b := Tryz.a123) rfl rfl ?_
  unfold Tryz.a123 Tryz.a123x8 Tryz.a123x7 Tryz.a123x6 Tryz.a123x5 Tryz.a123x4 Tryz.a123x3 Tryz.a123x2 Tryz.a123x1 Tryz.a123x0 
  unfold Me.wf at hx
  refine wp_fin ?_
  refine wp_alloc H fun q S1 H => ?_
  refine wp_op (e_ptrNil (by kernel_rfl)) ?_
  try(refine zz ?_;(repeat constructor);intro _)
  refine wp_row (j := 0) H 1 rfl rfl ?_
  try(refine zz ?_;(repeat constructor);intro _)
  refine wp_op (e_ptrNil (by kernel_rfl)) ?_
  try(refine zz ?_;(repeat constructor);intro _)
  refine wp_row (j := 7) H 1 rfl rfl ?_
  refine wp_add64 (by omega) (by omega) ?_
  try(refine zz ?_;(repeat constructor);intro _)
  refine wp_set1 (j := 7) H 1 rfl (by simp [Me.prow, Me.last]) ⟨rfl, rfl⟩ fun S2 H => ?_
  refine wp_op (v := .agg [I kind, I a, U 0, U 0, B false]) rfl ?_
  try(refine zz ?_;(repeat constructor);intro _)
  refine wp_store (off := 2) (n := 5) H 1 rfl rfl rfl (Nat.le_of_ble_eq_true rfl) fun S3 H => ?_
  have H : Cx B0 W S3 (.obj q (.row [I 0, I 0, U 0, U 0, B false]) :: (pMem m bl ⟨x.ws, kind, a, 0, 0, false, x.n + 1⟩ rest ++ R)) ro := H
  have fin : ∀ {S4 : AH} {y : Me} , Cx B0 W S4 (.obj q (.row [I 0, I 0, U 0, U 0, B false]) :: (pMem m bl y rest ++ R)) ro → wp EM (.op (.nilchk (.ptr m 0)) fun v22 => .op (.faddr 2 v22) fun v23 => .op (.load 5 true v23) fun v24 => Tryz.a123x4 (.ptr q 0) v24) S4 fun t vs S' => (t = .normal ∨ t = .ret) ∧ wp EM (.op (.load 5 true (nth vs 0)) fun v2 => .ret .ret [v2]) S' fun t vs S' => t = .ret ∧ oneOf vs = .agg y.last ∧ Cx B0 W S' (pMem m bl y rest ++ R) ro := by
    intro S4 y H
    unfold Tryz.a123x4 
    try(refine zz ?_;(repeat constructor);intro _)
    refine wp_loadoa (off := 2) (n := 5) H 1 rfl (Nat.le_of_ble_eq_true rfl) ?_
    refine wp_store (n := 5) (v := .agg y.last) H 0 rfl rfl rfl (Nat.le_of_ble_eq_true rfl) fun S5 H => ?_
    have H : Cx B0 W S5 (.obj q (.row y.last) :: (pMem m bl y rest ++ R)) ro := H
    refine wp_ret ⟨.inr rfl, ?_⟩
    refine wp_loadoa (off := 0) (n := 5) H 0 rfl (Nat.le_of_ble_eq_true rfl) ?_
    exact wp_ret ⟨rfl, rfl, H.dropAt 0⟩
  unfold Tryz.a123x4 at fin
  by_cases hh : x.has a
  · rw [if_pos hh]
    have hacc : x.acc kind a z held = ⟨x.ws.set a.toNat z, kind, a, x.word a, z, held, x.n + 1⟩ := if_pos hh
    obtain ⟨n, rfl⟩ : ∃ n : Nat, a = (n : Int) := ⟨a.toNat, by have := hh.1; omega⟩
    have hn : n < x.ws.length := by have := hh.2; omega
    have hw : x.ws[n]? = some x.ws[n] := List.getElem?_eq_getElem hn
    generalize x.ws[n] = old at hw
    rw [hacc, Me.word_eq hw]
    rw [Int.toNat_natCast] at *
    refine wp_call (wpC_mono isPlace_p fun r S4 qq => ?_)
    obtain ⟨rfl, rfl⟩ := qq
    refine wp_bind ?_
    try(refine zz ?_;(repeat constructor);intro _)
    have K := H.permS (own' := .obj bl (.row (blk x rest)) :: .obj q (.row [I 0, I 0, U 0, U 0, B false]) :: .obj m (.row (Me.prow ⟨x.ws, kind, n, 0, 0, false, x.n + 1⟩ bl)) :: R) (List.perm_middle (l₁ := [_, _]) (l₂ := R))
    refine wp_call (wpC_mono (hhow hh K) fun r S5 qq => ?_)
    obtain ⟨rfl, K⟩ := qq
    try(refine zz ?_;(repeat constructor);intro _)
    refine wp_row (j := n) K 0 rfl (blk_get hw) ?_
    try(refine zz ?_;(repeat constructor);intro _)
    refine wp_set1 (j := 4) K 2 rfl (Nat.le_of_ble_eq_true rfl) ⟨rfl, rfl⟩ fun S6 K => ?_
    try(refine zz ?_;(repeat constructor);intro _)
    refine wp_set1 (j := 5) K 2 rfl (Nat.le_of_ble_eq_true rfl) ⟨rfl, rfl⟩ fun S7 K => ?_
    try(refine zz ?_;(repeat constructor);intro _)
    refine wp_set1 (j := 6) K 2 rfl (Nat.le_of_ble_eq_true rfl) ⟨rfl, rfl⟩ fun S8 K => ?_
    try(refine zz ?_;(repeat constructor);intro _)
    refine wp_set1 (j := n) K 0 rfl (by simp [blk]; omega) ⟨rfl, rfl⟩ fun S9 K => ?_
    refine wp_ret ?_
    show wp EM _ _ _
    have e : (blk x rest).set n (U z) = (x.ws.set n z).map U ++ rest := blk_set hn
    have K : Cx B0 W S9 (.obj bl (.row ((blk x rest).set n (U z))) :: .obj q (.row [I 0, I 0, U 0, U 0, B false]) :: .obj m (.row (Me.prow ⟨x.ws, kind, n, old, z, held, x.n + 1⟩ bl)) :: R) ro := K
    rw [e] at K
    have hp : Me.prow ⟨x.ws.set n z, kind, n, old, z, held, x.n + 1⟩ bl = Me.prow ⟨x.ws, kind, n, old, z, held, x.n + 1⟩ bl := by unfold Me.prow; rw [List.length_set]; rfl
    have K := K.permS (own' := .obj q (.row [I 0, I 0, U 0, U 0, B false]) :: .obj m (.row (Me.prow ⟨x.ws, kind, n, old, z, held, x.n + 1⟩ bl)) :: .obj bl (.row ((x.ws.set n z).map U ++ rest)) :: R) (List.perm_middle (l₁ := [_, _]) (l₂ := R)).symm
    refine fin (y := ⟨x.ws.set n z, kind, n, old, z, held, x.n + 1⟩) ?_
    unfold pMem
    rw [hp]
    exact K
  · rw [if_neg hh]
    have hacc : x.acc kind a z held = ⟨x.ws, kind, a, 0, 0, false, x.n + 1⟩ := if_neg hh
    rw [hacc]
    refine wp_call (wpC_mono isPlace_N fun r S4 qq => ?_)
    obtain ⟨rfl, rfl⟩ := qq
    refine wp_bind ?_
    try(refine zz ?_;(repeat constructor);intro _)
    refine wp_ret ?_
    show wp EM _ _ _
    exact fin H
end
end Go.Abs.X
set_option linter.unusedSectionVars false
namespace Go.Abs.X
variable [Ek]
open Go.Proofs
set_option maxRecDepth 100000
set_option linter.unusedVariables false
def Me.good (x : Me) : Prop := x.wf ∧ ∀ w ∈ x.ws, 0 ≤ w ∧ w < 18446744073709551616
section
variable {B0 S : AH} {W : List Nat} {own R : List Own} {ro : List Fct} {Q : Post} {k : AV → AC} {v : AV} {m bl w : Nat} {x : Me} {rest : List AV}
theorem storeD_ok {c : AV} {z o : Int} : wpC EM (.fn (.func 124) [.agg [c, U z, U o]] []) [] S fun r S' => r = .tup [U z, B true] ∧ Grows S S' := by
  refine wpC_fn (b := Tryz.a124) rfl rfl ?_
  have H : Cx S [] S [] [] := Cx.enter (by simp)
  rw [Tryz.u124]
  refine wp_box H rfl fun p S1 H => ?_
  try(refine zz ?_;(repeat constructor);intro _)
  refine wp_ld (o := 1) H (by repeat (first | exact List.Mem.head _ | apply List.Mem.tail)) rfl ?_
  exact wp_ret ⟨rfl, rfl, H.grows⟩
def Me.at (x : Me) (bl : Nat) (a : Int) : AV := if x.has a then .ptr bl a.toNat else Np
theorem Me.at_cases (x : Me) (bl : Nat) (a : Int) : x.at bl a = Np ∨ ∃ i o, x.at bl a = .ptr i o := by
  unfold Me.at; split
  · exact .inr ⟨_, _, rfl⟩
  · exact .inl rfl
theorem store_ok' {a z : Int} (hx : x.wf) (H : Cx B0 W S (pMem m bl x rest ++ R) ro) : wpC EM (.fn (.func 81) [] []) [.ptr m 0, I a, U z] S fun r S' => Cx B0 W S' (pMem m bl (x.acc 2 a z true) rest ++ R) ro := by
  refine wpC_fn (b := Tryz.a81) rfl rfl ?_
  rw [Tryz.u81]
  refine wp_call (wpC_mono (cell_ok' hx H) fun r S1 q => ?_)
  obtain ⟨rfl, rfl⟩ := q
  have hd : ∀ {S : AH}, Cx B0 W S (pMem m bl x rest ++ R) ro → wpC EM (.fn (.func 123) [] []) [.ptr m 0, I 2, I a, x.at bl a, .fn (.func 124) [.agg [x.at bl a, U z, U 0]] []] S fun r S' => r = .agg (x.acc 2 a z true).last ∧ Cx B0 W S' (pMem m bl (x.acc 2 a z true) rest ++ R) ro :=
    fun H => do_ok' hx H fun hh S1 R1 H => wpC_mono storeD_ok fun r S5 qq => ⟨qq.1, H.grow qq.2⟩
  change wp EM (.op (.build [Np, U 0, U 0] [(0, 1, x.at bl a), (1, 1, U z)]) _) _ _
  have hc := x.at_cases bl a
  generalize x.at bl a = c at hc hd
  have ho : odd c = false ∧ c.cells = [c] := by rcases hc with rfl | ⟨i, o, rfl⟩ <;> exact ⟨rfl, rfl⟩
  refine wp_op (v := .agg [c, U z, U 0]) (by rcases hc with rfl | ⟨i, o, rfl⟩ <;> rfl) ?_
  refine wp_alloc H fun q S2 H => ?_
  refine wp_store (n := 3) H 0 (c := [Np, U 0, U 0]) rfl rfl rfl (by simp) fun S3 H => ?_
  have H : Cx B0 W S3 (.obj q (.row [c, U z, U 0]) :: (pMem m bl x rest ++ R)) ro := H
  try(refine zz ?_;(repeat constructor);intro _)
  refine wp_row (j := 0) H 0 rfl rfl ?_
  refine wp_loadoa (n := 3) H 0 rfl (by simp) ?_
  refine wp_call (wpC_mono (hd (H.dropAt 0)) fun r S4 qq => ?_)
  exact wp_ret ⟨rfl, qq.2⟩
def Me.fresh (n : Nat) : Me := ⟨List.replicate n 0, 0, 0, 0, 0, false, 0⟩
theorem newC_ok {n : Nat} (h1 : 1 ≤ n) (h2 : n ≤ 4096) (H : Cx B0 W S own ro) : wpC EM (.fn (.func 43) [] []) [I (n : Int)] S fun r S' => ∃ m bl, r = .tup [.ptr m 0, I 0] ∧ Cx B0 W S' (pMem m bl (Me.fresh n) (List.replicate (4096 - n) (U 0)) ++ own) ro := by
  refine wpC_fn (b := Tryz.a43) rfl rfl ?_
  unfold Tryz.a43 Tryz.a43x0 
  refine wp_lss_f (by omega) ?_
  try(refine zz ?_;(repeat constructor);intro _)
  refine wp_gtr_f (by omega) ?_
  try(refine zz ?_;(repeat constructor);intro _)
  refine wp_alloc H fun bl S1 H => ?_
  refine wp_op (v := .agg ((Me.fresh n).prow bl)) (by unfold Me.fresh Me.prow; rw [List.length_replicate]; rfl) ?_
  refine wp_boxOwn H rfl fun m S2 H => ?_
  have e : List.replicate 4096 (U 0) = (Me.fresh n).ws.map U ++ List.replicate (4096 - n) (U 0) := by
    unfold Me.fresh
    rw [List.map_replicate, List.replicate_append_replicate, show n + (4096 - n) = 4096 by omega]
  rw [e] at H
  exact wp_ret ⟨rfl, m, bl, rfl, H⟩
/-! ### the document's -/
end
end Go.Abs.X
set_option linter.unusedSectionVars false
namespace Go.Abs.X
variable [Ek]
open Go.Proofs
set_option maxRecDepth 100000
set_option linter.unusedVariables false
/-! ### numbers without a sign -/
section
variable {M : Mach} {S : AH} {Q : Post} {k : AV → AC} {κ κ' : IntKind}
theorem e_shr {a b : Int} (hb : 0 ≤ b) : evalOp M.P (.bin .shr (Z κ a) (Z κ' b)) S = some (Z κ (a.fdiv (2 ^ (min b.toNat κ.bits))), S) := by
  show pur (bShr (Z κ a) (Z κ' b)) S = _
  have : ltF b 0 = false := by rw [ltF_eq]; simpa using hb
  unfold bShr
  simp only [this]
  rfl
theorem shr_nat {n s : Nat} : ((n : Int).fdiv (2 ^ s)) = ((n / 2 ^ s : Nat) : Int) := by
  have : ((2 : Int) ^ s) = ((2 ^ s : Nat) : Int) := by simp
  rw [this, Int.ofNat_fdiv]
theorem wp_shrU {n s : Nat} (hn : n ≤ 18446744073709551615) (hs : s ≤ 64) (h : wp M (k (U ((n / 2 ^ s : Nat) : Int))) S Q) : wp M (.op (.bin .shr (U (n : Int)) (Z κ' (s : Int))) k) S Q := by
  refine wp_op (e_shr (by omega)) ?_
  have e : min (s : Int).toNat IntKind.u64.bits = s := by show min (s : Int).toNat 64 = s; omega
  rw [e, shr_nat]; exact h
theorem wp_conv {a c : Int} (hw : wrapF κ a = c) (h : wp M (k (Z κ c)) S Q) : wp M (.op (.conv κ (Z κ' a)) k) S Q := wp_op (v := Z κ c) (by show pur (pConv κ (Z κ' a)) S = _; rw [← hw]; rfl) h
theorem wrapUn {n : Nat} (h : n < 18446744073709551616) : wrapF .u64 (n : Int) = (n : Int) := by rw [wrapF_eq, IntKind.wrap_u64]; omega
theorem wp_convU (n : Nat) (h : n < 18446744073709551616) (hk : wp M (k (U (n : Int))) S Q) : wp M (.op (.conv .u64 (Z κ' (n : Int))) k) S Q := wp_conv (wrapUn h) hk
end
/-! ### rings -/
structure Rg where
  hd : Int
  tl : Int
  sl : Int
  cp : Nat
def Rg.cs (r : Rg) : List AV := [I r.hd, I r.tl, I r.sl, I r.cp]
def Rg.ok (r : Rg) : Prop := 1 ≤ r.cp ∧ r.cp ≤ 4096 ∧ 0 ≤ r.sl ∧ r.sl ≤ 1000000
def Rg.place (r : Rg) (n : Nat) : Int := r.sl + ((n % r.cp : Nat) : Int)
def Rg.lap (r : Rg) (n : Nat) : Nat := n / r.cp % 4294967296
def slFull (w lap : Nat) : Prop := w / 4294967296 = lap ∧ w / 65536 % 2 = 1
instance (w lap : Nat) : Decidable (slFull w lap) := inferInstanceAs (Decidable (_ ∧ _))
section
variable {B0 S : AH} {W : List Nat} {own R : List Own} {ro : List Fct} {Q : Post} {r : Rg}
end
end Go.Abs.X
set_option linter.unusedSectionVars false
namespace Go.Abs.X
variable [Ek]
open Go.Proofs
set_option maxRecDepth 100000
set_option linter.unusedVariables false
/-! ### what a ring has -/
def Me.wd (x : Me) (a : Int) : Nat := (x.word a).toNat
def nums (x : Me) (r : Rg) : Nat → Nat → List Nat
  | 0, _ => []
  | k + 1, n => if slFull (x.wd (r.place n)) (r.lap n) then n :: nums x r k ((n + 1) % 18446744073709551616) else []
section
variable {B0 S : AH} {W : List Nat} {own R : List Own} {ro : List Fct} {Q : Post} {k : AV → AC} {r : Rg} {m bl w : Nat} {x : Me} {rest : List AV} {v : AV}
theorem beq_sl {v : AV} {es : Nat} {L : List (List AV)} (h : slOk S v es L) : AV.beq v v = true := by
  rcases h with ⟨rfl, _⟩ | ⟨id, off, c, (⟨_, _, _, rfl⟩ | ⟨_, _, _, rfl⟩), _⟩
  · rfl
  · simp [AV.beq]
  · simp [AV.beq]
end
end Go.Abs.X
set_option linter.unusedSectionVars false
namespace Go.Abs.X
variable [Ek]
open Go.Proofs
set_option maxRecDepth 100000
set_option linter.unusedVariables false
/-! ### mailboxes: what waits -/
section
variable {B0 S : AH} {W : List Nat} {own R : List Own} {ro : List Fct} {Q : Post} {k : AV → AC} {m bl w : Nat} {x : Me} {rest : List AV} {v : AV} {a n r : Int}
end
end Go.Abs.X
set_option linter.unusedSectionVars false
namespace Go.Abs.X
variable [Ek]
open Go.Proofs
set_option maxRecDepth 100000
set_option linter.unusedVariables false
open Tsk (Tk tks tchk)
/-! ### flags -/
section
variable {B0 S : AH} {W : List Nat} {own R : List Own} {ro : List Fct} {Q : Post} {k : AV → AC} {m bl w : Nat} {x : Me} {rest : List AV} {v : AV} {a f n : Int}
theorem sizedR_ok (h : 1 ≤ n ∧ n ≤ 64) : wpC EM (.fn (.func 121) [] []) [.agg [I a, I f, I n]] S fun u S' => u = B true ∧ Grows S S' := by
  refine wpC_fn (b := Tryz.a121) rfl rfl ?_
  have H : Cx S [] S [] [] := Cx.enter (by simp)
  rw [Tryz.u121]
  refine wp_box H rfl fun p S1 H => ?_
  try(refine zz ?_;(repeat constructor);intro _)
  refine wp_ld (o := 2) (cs := [I a, I f, I n]) H (by repeat (first | exact List.Mem.head _ | apply List.Mem.tail)) rfl ?_
  refine wp_geq_t h.1 ?_
  try(refine zz ?_;(repeat constructor);intro _)
  refine wp_ld (o := 2) (cs := [I a, I f, I n]) H (by repeat (first | exact List.Mem.head _ | apply List.Mem.tail)) rfl ?_
  try(refine zz ?_;(repeat constructor);intro _)
  refine wp_leq_t h.2 ?_
  try(refine zz ?_;(repeat constructor);intro _)
  exact wp_ret ⟨rfl, rfl, H.grows⟩
end
end Go.Abs.X
