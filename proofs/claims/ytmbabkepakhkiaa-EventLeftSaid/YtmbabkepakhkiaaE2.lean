/- functions of this cut: what they compute, in the abstract machine. Conditions: stated in each theorem -/
import Derived.Test.YtmbabkepakhkiaaE1
set_option linter.unusedVariables false
set_option linter.unusedSimpArgs false
namespace Go.Abs
open Go.Proofs
set_option maxRecDepth 100000
/-- one element, new -/
theorem wp_lit1 {M : Mach} {B0 S : AH} {W : List Nat} {own : List Own} {ro : List Fct} {Q : Post} {k : AV → AC} (H : Cx B0 W S own ro) {x : AV} {es : Nat} {z : List AV} (ho : odd x = false) (hx : x.cells.length = es) (hz : z.length = es)
    (h : ∀ t S1, Cx B0 W S1 own (.sl t es [x.cells] :: ro) → wp M (k t) S1 Q) : wp M (.op (.bslice es 1 z [(0, es, x)]) k) S Q := by
  refine wp_op (v := .sl S.next 0 1 1) (S1 := S.new (.row x.cells)) ?_ (h _ _ (H.addNewRo (Grows.new S _) (.inr ⟨S.next, 0, x.cells, .inl ⟨1, Nat.le_refl _, by rw [hx]; omega, rfl⟩, row_cells (get_new_same _ _), ?_, ?_⟩) ?_))
  · show nBslice es 1 z [(0, es, x)] S = _
    unfold nBslice
    have e0 : repZero z 1 = z := by simp [repZero, appL_eq]
    have e1 : (not (odd x) && Nat.beq (lenL x.cells) es && Nat.ble (Nat.add 0 es) (lenL z)) = true := by
      rw [lenL_eq, lenL_eq, hx, hz, Nat.beq_refl, ho]
      have : Nat.ble (Nat.add 0 es) es = true := ble_t (by show 0 + es ≤ es; omega)
      rw [this]; rfl
    have e2 : setRange z 0 x.cells = x.cells := by rw [setRange_eq]; simp; omega
    have e3 : (Nat.beq (lenL x.cells) (Nat.mul 1 es) && Nat.beq (lenL z) es) = true := by
      rw [lenL_eq, lenL_eq, hx, hz, Nat.beq_refl]
      have : Nat.mul 1 es = es := Nat.one_mul es
      rw [this, Nat.beq_refl]; rfl
    rw [e0]
    simp only [fillP, e1, e2, e3]
    rfl
  · simp [← hx]
  · intro y hy; simp at hy; subst hy; exact hx
  · intro j hj
    simp only [Fct.ids, vids, List.mem_singleton] at hj
    subst hj
    simp

def seqE (n : Nat) : List Evt := (List.range n).map fun (i : Nat) => (⟨(i : Int), false, 0, 0, 0, 0, 0, 0, 0⟩ : Evt)
theorem seqE_len (n : Nat) : (seqE n).length = n := by simp [seqE]
theorem seqE_succ (n : Nat) : seqE (n + 1) = seqE n ++ [⟨(n : Int), false, 0, 0, 0, 0, 0, 0, 0⟩] := by unfold seqE; rw [List.range_succ, List.map_append]; rfl
theorem seqE_get {n i : Nat} (h : i < n) : (seqE n)[i]? = some ⟨(i : Int), false, 0, 0, 0, 0, 0, 0, 0⟩ := by simp [seqE, h]
theorem seqE_take {n i : Nat} (h : i ≤ n) : (seqE n).take i = seqE i := by
  unfold seqE
  rw [← List.map_take, List.take_range]
  congr 2; omega
theorem seqE_err {n i : Nat} (h : i < n) : errAt ((seqE n).take i) ⟨(i : Int), false, 0, 0, 0, 0, 0, 0, 0⟩ = 0 := by
  unfold errAt
  rw [if_neg, if_neg (by simp)]
  rw [atIx_iff, seqE_take (by omega)]
  rintro ⟨x, hx, h1, _⟩
  unfold seqE at hx
  obtain ⟨j, hj, rfl⟩ := List.mem_map.1 hx
  have := List.mem_range.1 hj
  simp at h1
  omega
theorem seqE_chkN (n : Nat) : ∀ m i, i + m = n → chkN (seqE n) m i = 0
  | 0, _, _ => rfl
  | m + 1, i, h => by
    rw [chkN, seqE_get (by omega)]
    simp only
    rw [if_pos (seqE_err (by omega))]
    exact seqE_chkN n m (i + 1) (by omega)
theorem seqE_chk (n : Nat) : chk (seqE n) = if 4096 < n then 4 else 0 := by
  unfold chk
  rw [seqE_len, seqE_chkN n n 0 (by omega)]
theorem seqE_most (n : Nat) : ∀ i : Nat, i ≤ n → mostN (seqE n) i = ((i : Int), (i : Int))
  | 0, _ => rfl
  | i + 1, h => by
    unfold mostN
    rw [seqE_get (by omega), seqE_most n i (by omega)]
    simp; omega

theorem eventLong_ok {S : AH} {n : Int} {x : Evt} : wpC EM (.fn (.func 3) [] []) [I n, .agg x.cs] S fun r _ => r = B true := by
  refine wpC_fn (b := Try.a3) rfl rfl ?_
  have H : Cx S [] S [] [] := Cx.enter (by simp)
  unfold Try.a3
  refine wp_box H rfl fun b S1 H => ?_
  have hp : 0 ≤ pick n 11 ∧ pick n 11 ≤ 10 := by
    unfold pick
    rw [if_neg (by omega)]
    have := Int.emod_nonneg n (by omega : (11 : Int) ≠ 0)
    have := Int.emod_lt_of_pos n (by omega : (0 : Int) < 11)
    omega
  obtain ⟨m, hm⟩ : ∃ m : Nat, pick n 11 = (m : Int) := ⟨(pick n 11).toNat, by omega⟩
  have pickR : ∀ {S : AH} {Q : Post} {k : AV → AC}, wp EM (k (I (m : Int))) S Q → wp EM (.call (.fn (.func 9) [] []) [I n, I 11] k) S Q := fun h => wp_call (wpC_mono (pick_ok rfl rfl (by omega)) fun r S' ⟨h1, h2⟩ => by rw [h1, h2, hm]; exact h)
  refine wp_bind (wp_loop (wpL_for (4090 + m) (fun i vs S1 => ∃ u : AV, vs = [I (i : Int), u] ∧ Cx S [] S1 [.sl u 9 (evs (seqE i))] [.pt b 0 x.cs]) ?_ ?_ ⟨Ns, rfl, H.addOwn (Grows.refl _) (.inl ⟨rfl, rfl⟩) (by simp [Own.ids, vids])⟩))
  · rintro i vs S1 hlt ⟨u, rfl, H⟩
    refine pickR ?_
    refine wp_add64 (by omega) (by omega) ?_
    refine wp_lss_t (by omega) ?_
    repeat (first | refine wp_gop_t ?_ | refine wp_gop_f rfl ?_ | refine wp_gop_u ?_ | refine wp_gcall_t ?_ | refine wp_gcall_f rfl ?_ | refine wp_gcall_u ?_ | refine wp_ite_t ?_ | refine wp_ite_f ?_ | refine wp_faddr ?_ | refine wp_nilchk ?_ | refine wp_op (o := .mv _) rfl ?_ | refine wp_op (o := .pick _ _ _) rfl ?_ | refine wp_op (o := .extract _ _) rfl ?_)
    refine wp_bind ?_
    refine wp_op (v := .agg [I (i : Int), B false, I 0, I 0, I 0, U 0, I 0, I 0, U 0]) rfl ?_
    refine wp_push H 0 rfl rfl rfl rfl (by rw [evs_len, seqE_len]; unfold maxBytes; omega) (by rw [evs_len, seqE_len]; unfold maxLenN; omega) fun u1 S2 H => ?_
    refine wp_ret ?_
    show wp EM _ _ _
    refine wp_add64 (by omega) (by omega) (wp_ret (.inl ⟨rfl, u1, rfl, ?_⟩))
    rw [seqE_succ, evs_append]
    exact H
  · rintro vs S1 ⟨u, rfl, H⟩
    refine pickR ?_
    refine wp_add64 (by omega) (by omega) ?_
    refine wp_lss_f (by omega) ?_
    repeat (first | refine wp_gop_t ?_ | refine wp_gop_f rfl ?_ | refine wp_gop_u ?_ | refine wp_gcall_t ?_ | refine wp_gcall_f rfl ?_ | refine wp_gcall_u ?_ | refine wp_ite_t ?_ | refine wp_ite_f ?_ | refine wp_faddr ?_ | refine wp_nilchk ?_ | refine wp_op (o := .mv _) rfl ?_ | refine wp_op (o := .pick _ _ _) rfl ?_ | refine wp_op (o := .extract _ _) rfl ?_)
    refine wp_ret ⟨by simp, ?_⟩
    show wp EM _ _ _
    generalize hN : 4090 + m = N at H
    have hNle : N ≤ 4100 := by omega
    have hchk := seqE_chk N
    replace H := H.toRo (i := 0) rfl
    refine wp_len H (es := 9) (L := evs (seqE N)) (by repeat (first | exact List.Mem.head _ | apply List.Mem.tail)) ?_
    rw [evs_len, seqE_len]
    -- what is wanted
    have rest : ∀ w : Int, chk (seqE N) = w → wp EM (.call (.fn (.func 10) [] []) [u] fun v6 => .op (.bin .neq v6 (I w)) fun v7 => .gop v7 false (.mv (I w)) fun v8 => Try.a3x6 (.ptr b 0) [I (N : Int), u] v7 v8) S1 fun t vs S' => t = .ret ∧ oneOf vs = B true := by
      intro w hw
      refine wp_callV H (check_ok (h := seqE N) (H.roSl (by repeat (first | exact List.Mem.head _ | apply List.Mem.tail)))) fun S2 H => ?_
      refine wp_neq_f hw ?_
      repeat (first | refine wp_gop_t ?_ | refine wp_gop_f rfl ?_ | refine wp_gop_u ?_ | refine wp_gcall_t ?_ | refine wp_gcall_f rfl ?_ | refine wp_gcall_u ?_ | refine wp_ite_t ?_ | refine wp_ite_f ?_ | refine wp_faddr ?_ | refine wp_nilchk ?_ | refine wp_op (o := .mv _) rfl ?_ | refine wp_op (o := .pick _ _ _) rfl ?_ | refine wp_op (o := .extract _ _) rfl ?_)
      have tail : ∀ S3, Cx S [] S3 [] [.sl u 9 (evs (seqE N)), .pt b 0 x.cs] → wp EM (.op (.sslice 9 u none (some (I 10)) none) fun v18 => Try.a3x4 (.ptr b 0) v18) S3 fun t vs S' => t = .ret ∧ oneOf vs = B true := by
        intro S3 H
        refine wp_prefix (i := 10) H (by repeat (first | exact List.Mem.head _ | apply List.Mem.tail)) (by rw [evs_len, seqE_len]; omega) fun pv H => ?_
        rw [evs_take, seqE_take (by omega)] at H
        unfold Try.a3x4
        refine wp_loada H (cs := x.cs) (by repeat (first | exact List.Mem.head _ | apply List.Mem.tail)) (Nat.le_of_ble_eq_true rfl) ?_
        refine wp_lit1 H rfl rfl rfl fun t S4 H => ?_
        refine wp_callN H (copyE_ok (h := seqE 10) (H.roSl (by repeat (first | exact List.Mem.head _ | apply List.Mem.tail))) (by rw [seqE_len]; omega)) fun c S5 H => ?_
        refine wp_chkn (j := 0) (cs := x.cs) H (by repeat (first | exact List.Mem.head _ | apply List.Mem.tail)) (Nat.le_of_ble_eq_true rfl) rfl (by
          intro y hy
          simp only [Evt.cs, List.drop, List.take, List.mem_cons, List.not_mem_nil, or_false] at hy
          rcases hy with rfl | rfl | rfl | rfl | rfl | rfl | rfl | rfl | rfl <;> first | exact beq_num | exact beq_bool) ?_
        refine wp_appendR H 0 rfl (N := [x.cs]) (by repeat (first | exact List.Mem.head _ | apply List.Mem.tail)) (fun y hy => by simp at hy; subst hy; rfl) (by rw [evs_len, seqE_len]; unfold maxBytes; show (10 + 1) * 72 ≤ _; omega) (by rw [evs_len, seqE_len]; unfold maxLenN; show 10 + 1 ≤ _; omega) fun u1 S6 H => ?_
        have e : evs (seqE 10) ++ [x.cs] = evs (seqE 10 ++ [x]) := by rw [evs_append]; rfl
        rw [e] at H
        refine wp_callV H (check_ok (h := seqE 10 ++ [x]) (H.ownSl (n := 0) rfl)) fun S7 H => ?_
        refine wp_callV H (refCheck_ok (h := seqE 10 ++ [x]) (H.ownSl (n := 0) rfl)) fun S8 H => ?_
        refine wp_eql_t rfl ?_
        repeat (first | refine wp_gop_t ?_ | refine wp_gop_f rfl ?_ | refine wp_gop_u ?_ | refine wp_gcall_t ?_ | refine wp_gcall_f rfl ?_ | refine wp_gcall_u ?_ | refine wp_ite_t ?_ | refine wp_ite_f ?_ | refine wp_faddr ?_ | refine wp_nilchk ?_ | refine wp_op (o := .mv _) rfl ?_ | refine wp_op (o := .pick _ _ _) rfl ?_ | refine wp_op (o := .extract _ _) rfl ?_)
        refine awake_ok ?_
        repeat (first | refine wp_gop_t ?_ | refine wp_gop_f rfl ?_ | refine wp_gop_u ?_ | refine wp_gcall_t ?_ | refine wp_gcall_f rfl ?_ | refine wp_gcall_u ?_ | refine wp_ite_t ?_ | refine wp_ite_f ?_ | refine wp_faddr ?_ | refine wp_nilchk ?_ | refine wp_op (o := .mv _) rfl ?_ | refine wp_op (o := .pick _ _ _) rfl ?_ | refine wp_op (o := .extract _ _) rfl ?_)
        exact wp_ret ⟨rfl, rfl⟩
      by_cases hz : w = 0
      · refine wp_eql_t hz ?_
        repeat (first | refine wp_gop_t ?_ | refine wp_gop_f rfl ?_ | refine wp_gop_u ?_ | refine wp_gcall_t ?_ | refine wp_gcall_f rfl ?_ | refine wp_gcall_u ?_ | refine wp_ite_t ?_ | refine wp_ite_f ?_ | refine wp_faddr ?_ | refine wp_nilchk ?_ | refine wp_op (o := .mv _) rfl ?_ | refine wp_op (o := .pick _ _ _) rfl ?_ | refine wp_op (o := .extract _ _) rfl ?_)
        refine wp_callV H (most_ok (h := seqE N) (H.roSl (by repeat (first | exact List.Mem.head _ | apply List.Mem.tail)))) fun S3 H => ?_
        repeat (first | refine wp_gop_t ?_ | refine wp_gop_f rfl ?_ | refine wp_gop_u ?_ | refine wp_gcall_t ?_ | refine wp_gcall_f rfl ?_ | refine wp_gcall_u ?_ | refine wp_ite_t ?_ | refine wp_ite_f ?_ | refine wp_faddr ?_ | refine wp_nilchk ?_ | refine wp_op (o := .mv _) rfl ?_ | refine wp_op (o := .pick _ _ _) rfl ?_ | refine wp_op (o := .extract _ _) rfl ?_)
        refine wp_len H (es := 9) (L := evs (seqE N)) (by repeat (first | exact List.Mem.head _ | apply List.Mem.tail)) ?_
        rw [evs_len, seqE_len]
        repeat (first | refine wp_gop_t ?_ | refine wp_gop_f rfl ?_ | refine wp_gop_u ?_ | refine wp_gcall_t ?_ | refine wp_gcall_f rfl ?_ | refine wp_gcall_u ?_ | refine wp_ite_t ?_ | refine wp_ite_f ?_ | refine wp_faddr ?_ | refine wp_nilchk ?_ | refine wp_op (o := .mv _) rfl ?_ | refine wp_op (o := .pick _ _ _) rfl ?_ | refine wp_op (o := .extract _ _) rfl ?_)
        refine wp_neq_f ?_ ?_
        · unfold most
          rw [if_pos (hw.trans hz), seqE_len, seqE_most N N (Nat.le_refl _)]
        · repeat (first | refine wp_gop_t ?_ | refine wp_gop_f rfl ?_ | refine wp_gop_u ?_ | refine wp_gcall_t ?_ | refine wp_gcall_f rfl ?_ | refine wp_gcall_u ?_ | refine wp_ite_t ?_ | refine wp_ite_f ?_ | refine wp_faddr ?_ | refine wp_nilchk ?_ | refine wp_op (o := .mv _) rfl ?_ | refine wp_op (o := .pick _ _ _) rfl ?_ | refine wp_op (o := .extract _ _) rfl ?_)
          exact tail S3 H
      · refine wp_eql_f hz ?_
        repeat (first | refine wp_gop_t ?_ | refine wp_gop_f rfl ?_ | refine wp_gop_u ?_ | refine wp_gcall_t ?_ | refine wp_gcall_f rfl ?_ | refine wp_gcall_u ?_ | refine wp_ite_t ?_ | refine wp_ite_f ?_ | refine wp_faddr ?_ | refine wp_nilchk ?_ | refine wp_op (o := .mv _) rfl ?_ | refine wp_op (o := .pick _ _ _) rfl ?_ | refine wp_op (o := .extract _ _) rfl ?_)
        exact tail S2 H
    refine wp_gtr (fun hg => ?_) (fun hg => ?_)
    · refine wp_bind ?_
      repeat (first | refine wp_gop_t ?_ | refine wp_gop_f rfl ?_ | refine wp_gop_u ?_ | refine wp_gcall_t ?_ | refine wp_gcall_f rfl ?_ | refine wp_gcall_u ?_ | refine wp_ite_t ?_ | refine wp_ite_f ?_ | refine wp_faddr ?_ | refine wp_nilchk ?_ | refine wp_op (o := .mv _) rfl ?_ | refine wp_op (o := .pick _ _ _) rfl ?_ | refine wp_op (o := .extract _ _) rfl ?_)
      refine wp_ret (rest 4 ?_)
      rw [hchk, if_pos (by omega)]
    · refine wp_bind ?_
      repeat (first | refine wp_gop_t ?_ | refine wp_gop_f rfl ?_ | refine wp_gop_u ?_ | refine wp_gcall_t ?_ | refine wp_gcall_f rfl ?_ | refine wp_gcall_u ?_ | refine wp_ite_t ?_ | refine wp_ite_f ?_ | refine wp_faddr ?_ | refine wp_nilchk ?_ | refine wp_op (o := .mv _) rfl ?_ | refine wp_op (o := .pick _ _ _) rfl ?_ | refine wp_op (o := .extract _ _) rfl ?_)
      refine wp_ret (rest 0 ?_)
      rw [hchk, if_neg (by omega)]
end Go.Abs
namespace Go.Abs
open Go.Proofs
set_option maxRecDepth 100000
theorem errAt_iff (p : List Evt) (x : Evt) : errAt p x = 0 ↔ (¬ ∃ y ∈ p, y.id = x.id ∧ y.ans = x.ans) ∧ (x.ans = true → ∃ y ∈ p, y.id = x.id ∧ y.ans = false) := by
  unfold errAt
  rw [← atIx_iff, ← atIx_iff]
  have := atIx_ge p x.id false
  split
  · rename_i h; simp [h]
  · rename_i h
    split
    · rename_i h2
      simp only [h, not_false_eq_true, true_and]
      constructor
      · intro e; cases e
      · intro h3; have := h3 h2.1; omega
    · rename_i h2
      simp only [h, not_false_eq_true, true_and, true_iff]
      intro ha
      by_cases h3 : atIx p x.id false < 0
      · exact absurd ⟨ha, h3⟩ h2
      · omega
/-- a history that may be -/
def Valid (h : List Evt) : Prop := h.Pairwise (fun a b => ¬ (a.id = b.id ∧ a.ans = b.ans)) ∧ ∀ pre x suf, h = pre ++ x :: suf → x.ans = true → ∃ y ∈ pre, y.id = x.id ∧ y.ans = false
theorem chkN_iff (h : List Evt) : ∀ m i, i + m = h.length → (chkN h m i = 0 ↔ ∀ j (hj : j < h.length), i ≤ j → errAt (h.take j) h[j] = 0)
  | 0, i, e => by
    constructor
    · intro _ j hj hij; omega
    · intro _; rfl
  | m + 1, i, e => by
    have hi : i < h.length := by omega
    rw [chkN, List.getElem?_eq_getElem hi]
    simp only
    have ih := chkN_iff h m (i + 1) (by omega)
    by_cases h0 : errAt (h.take i) h[i] = 0
    · rw [if_pos h0, ih]
      constructor
      · intro H j hj hij
        by_cases e : i = j
        · subst e; exact h0
        · exact H j hj (by omega)
      · intro H j hj hij; exact H j hj (by omega)
    · rw [if_neg h0]
      constructor
      · intro e; exact absurd e h0
      · intro H; exact absurd (H i hi (Nat.le_refl _)) h0
theorem chk_iff (h : List Evt) : chk h = 0 ↔ h.length ≤ 4096 ∧ Valid h := by
  unfold chk
  by_cases hl : 4096 < h.length
  · rw [if_pos hl]
    constructor
    · intro e; cases e
    · intro ⟨e, _⟩; omega
  · rw [if_neg hl, chkN_iff h h.length 0 (by omega)]
    constructor
    · intro H
      refine ⟨by omega, ?_, ?_⟩
      · rw [List.pairwise_iff_getElem]
        intro a b ha hb hab hs
        have := (errAt_iff _ _).1 (H b hb (by omega))
        exact this.1 ⟨h[a], List.mem_iff_getElem.2 ⟨a, by simp; omega, by simp⟩, hs.1, hs.2⟩
      · intro pre x suf e ha
        subst e
        have hj : pre.length < (pre ++ x :: suf).length := by simp
        have := (errAt_iff _ _).1 (H pre.length hj (by omega))
        simp only [List.take_left, List.getElem_append_right (Nat.le_refl _), Nat.sub_self, List.getElem_cons_zero] at this
        exact this.2 ha
    · rintro ⟨_, h1, h2⟩ j hj _
      rw [errAt_iff]
      constructor
      · rintro ⟨y, hy, e1, e2⟩
        obtain ⟨a, ha, rfl⟩ := List.mem_iff_getElem.1 hy
        rw [List.length_take] at ha
        rw [List.pairwise_iff_getElem] at h1
        exact h1 a j (by omega) hj (by omega) ⟨by simpa using e1, by simpa using e2⟩
      · intro ha
        refine h2 (h.take j) h[j] (h.drop (j + 1)) ?_ ha
        rw [List.getElem_cons_drop, List.take_append_drop]
theorem Valid.filter {h : List Evt} (hv : Valid h) {p : Evt → Bool} (hp : ∀ x y : Evt, x.id = y.id → p x = p y) : Valid (h.filter p) := by
  refine ⟨hv.1.sublist List.filter_sublist, ?_⟩
  intro pre x suf e ha
  obtain ⟨l1, l2, rfl, rfl, e2⟩ := List.filter_eq_append_iff.1 e
  obtain ⟨l3, l4, rfl, h3, hx, rfl⟩ := List.filter_eq_cons_iff.1 e2
  obtain ⟨y, hy, e3, e4⟩ := hv.2 (l1 ++ l3) x l4 (by simp) ha
  refine ⟨y, List.mem_filter.2 ⟨?_, by rw [hp y x e3]; exact hx⟩, e3, e4⟩
  rcases List.mem_append.1 hy with hy | hy
  · exact hy
  · exact absurd (by rw [hp y x e3]; exact hx) (h3 y hy)
theorem Valid.take {h : List Evt} (hv : Valid h) (k : Nat) : Valid (h.take k) := by
  refine ⟨hv.1.sublist (List.take_sublist _ _), fun pre x suf e ha => ?_⟩
  refine hv.2 pre x (suf ++ h.drop k) ?_ ha
  have e2 := List.take_append_drop k h
  rw [e, List.append_assoc, List.cons_append] at e2
  exact e2.symm
theorem whole_valid {h : List Evt} (hc : chk h = 0) : chk (whole h) = 0 := by
  obtain ⟨h1, h2⟩ := (chk_iff h).1 hc
  refine (chk_iff _).2 ⟨Nat.le_trans (List.length_filter_le _ _) h1, h2.filter fun x y e => by rw [e]⟩
theorem only_valid {h : List Evt} (l : List Int) (hc : chk h = 0) : chk (only h l) = 0 := by
  obtain ⟨h1, h2⟩ := (chk_iff h).1 hc
  refine (chk_iff _).2 ⟨Nat.le_trans (List.length_filter_le _ _) h1, h2.filter fun x y e => by rw [e]⟩
theorem take_valid {h : List Evt} (k : Nat) (hc : chk h = 0) : chk (h.take k) = 0 := by
  obtain ⟨h1, h2⟩ := (chk_iff h).1 hc
  refine (chk_iff _).2 ⟨by rw [List.length_take]; omega, h2.take k⟩
theorem in_pend {h : List Evt} (hc : chk h = 0) {x : Evt} (hx : x ∈ h) : x.id ∈ pend h ↔ ¬ 0 ≤ atIx h x.id true := by
  rw [mem_pend hc]
  constructor
  · rintro ⟨_, h2⟩; omega
  · intro h0
    refine ⟨?_, by omega⟩
    cases ha : x.ans with
    | false => exact ⟨x, hx, rfl, ha⟩
    | true => exact absurd (atIx_iff.2 ⟨x, hx, rfl, ha⟩) h0
theorem whole_pend {h : List Evt} (hc : chk h = 0) : pend (whole h) = [] := by
  rw [List.eq_nil_iff_forall_not_mem]
  intro id hid
  obtain ⟨⟨x, hx, rfl, ha⟩, hno⟩ := (mem_pend (whole_valid hc)).1 hid
  have hx' := List.mem_filter.1 hx
  have hn : x.id ∉ pend h := by simpa using hx'.2
  have h0 : 0 ≤ atIx h x.id true := by
    by_cases h0 : 0 ≤ atIx h x.id true
    · exact h0
    · exact absurd ((in_pend hc hx'.1).2 h0) hn
  obtain ⟨y, hy, e1, e2⟩ := atIx_iff.1 h0
  have : 0 ≤ atIx (whole h) x.id true := atIx_iff.2 ⟨y, List.mem_filter.2 ⟨hy, by simp [e1, hn]⟩, e1, e2⟩
  omega
theorem callsN_fst (h : List Evt) : ∀ i, i ≤ h.length → (callsN h i).map (·.1) = (h.take i).filter fun x => !x.ans
  | 0, _ => by simp [callsN]
  | i + 1, hi => by
    have hlt : i < h.length := by omega
    rw [callsN_succ hlt, List.take_succ_eq_append_getElem hlt, List.filter_append]
    have ih := callsN_fst h i (by omega)
    cases ha : h[i].ans with
    | true => simp [ih, ha]
    | false => simp [ih, ha]
theorem whole_count {h : List Evt} (hc : chk h = 0) : (whole h).length = 2 * ((callsN h h.length).length - (pend h).length) ∧ (pend h).length ≤ (callsN h h.length).length := by
  obtain ⟨_, hv⟩ := (chk_iff h).1 hc
  have hcf := callsN_fst h h.length (Nat.le_refl _)
  rw [List.take_length] at hcf
  have hC : (callsN h h.length).length = (h.filter fun x => !x.ans).length := by rw [← hcf, List.length_map]
  have hP : (pend h).length = ((h.filter fun x => !x.ans).filter fun x => decide (atIx h x.id true < 0)).length := by
    unfold pend pendL
    rw [if_pos hc, List.length_map, ← hcf, List.filter_map, List.length_map]; rfl
  have hsplit : ∀ (l : List Evt) (q : Evt → Bool), l.length = (l.filter q).length + (l.filter fun x => !q x).length := by
    intro l q
    induction l with
    | nil => rfl
    | cons a l ih => cases hq : q a <;> simp [hq] <;> omega
  have h1 := hsplit (h.filter fun x => !x.ans) fun x => decide (atIx h x.id true < 0)
  -- the calls with an answer, and the answers
  have hB : ((h.filter fun x => !x.ans).filter fun x => !decide (atIx h x.id true < 0)).length = (h.filter fun x => x.ans).length := by
    have nodup : ∀ (b : Bool) (l : List Evt), l.Sublist h → (∀ x ∈ l, x.ans = b) → (l.map (·.id)).Nodup := by
      intro b l hs hb
      have hp := hv.1.sublist hs
      unfold List.Nodup
      rw [List.pairwise_map]
      refine List.Pairwise.imp_of_mem ?_ hp
      intro x y hx hy hne e
      exact hne ⟨e, by rw [hb x hx, hb y hy]⟩
    have p := (List.perm_ext_iff_of_nodup (nodup false ((h.filter fun x => !x.ans).filter fun x => !decide (atIx h x.id true < 0)) (List.filter_sublist.trans List.filter_sublist) (fun x hx => by simpa using (List.mem_filter.1 (List.mem_filter.1 hx).1).2)) (nodup true (h.filter fun x => x.ans) List.filter_sublist (fun x hx => (List.mem_filter.1 hx).2))).2 (fun id => by
      simp only [List.mem_map, List.mem_filter, Bool.not_eq_true', decide_eq_false_iff_not]
      constructor
      · rintro ⟨x, ⟨⟨hx, hf⟩, h0⟩, rfl⟩
        obtain ⟨y, hy, e1, e2⟩ := atIx_iff.1 (by omega : 0 ≤ atIx h x.id true)
        exact ⟨y, ⟨hy, e2⟩, e1⟩
      · rintro ⟨x, ⟨hx, hf⟩, rfl⟩
        obtain ⟨pre, suf, e⟩ := List.append_of_mem hx
        obtain ⟨y, hy, e1, e2⟩ := hv.2 pre x suf e hf
        have hyh : y ∈ h := by rw [e]; exact List.mem_append.2 (.inl hy)
        refine ⟨y, ⟨⟨hyh, e2⟩, ?_⟩, e1⟩
        have : 0 ≤ atIx h y.id true := atIx_iff.2 ⟨x, hx, e1.symm, hf⟩
        omega)
    have := p.length_eq
    simpa using this
  have hw := hsplit (whole h) fun x => x.ans
  have hwa : (whole h).filter (fun x => x.ans) = h.filter fun x => x.ans := by
    unfold whole
    rw [List.filter_filter]
    apply List.filter_congr
    intro x hx
    cases ha : x.ans with
    | false => simp
    | true =>
      have : x.id ∉ pend h := fun hm => (in_pend hc hx).1 hm (atIx_iff.2 ⟨x, hx, rfl, ha⟩)
      simp [this]
  have hwc : (whole h).filter (fun x => !x.ans) = (h.filter fun x => !x.ans).filter fun x => !decide (atIx h x.id true < 0) := by
    unfold whole
    rw [List.filter_filter, List.filter_filter]
    apply List.filter_congr
    intro x hx
    have := in_pend hc hx
    by_cases h0 : 0 ≤ atIx h x.id true
    · have h3 : x.id ∉ pend h := fun hm => this.1 hm h0
      have h4 : ¬ atIx h x.id true < 0 := by omega
      simp [h3, h4]
    · have h3 : x.id ∈ pend h := this.2 h0
      have h4 : atIx h x.id true < 0 := by omega
      simp [h3, h4]
  rw [hwa, hwc] at hw
  omega
end Go.Abs
namespace Go.Abs
open Go.Proofs
set_option maxRecDepth 100000
theorem eventLeft_ok {S : AH} {v v' : AV} {h : List Evt} {l : List Int} {cut : Int} (hv : RoSl S v 9 (evs h)) (hv' : RoSl S v' 1 (ints l)) : wpC EM (.fn (.func 8) [] []) [v, v', I cut] S fun r _ => r = B true := by
  refine wpC_fn (b := Try.a8) rfl rfl ?_
  have H := Cx.ro2 hv hv'
  unfold Try.a8
  refine known_ok ?_
  refine wp_len H (es := 9) (L := evs h) (by repeat (first | exact List.Mem.head _ | apply List.Mem.tail)) ?_
  rw [evs_len]
  refine wp_gtr (fun hlt => ?_) (fun hge => ?_)
  · repeat (first | refine wp_gop_t ?_ | refine wp_gop_f rfl ?_ | refine wp_gop_u ?_ | refine wp_gcall_t ?_ | refine wp_gcall_f rfl ?_ | refine wp_gcall_u ?_ | refine wp_ite_t ?_ | refine wp_ite_f ?_ | refine wp_faddr ?_ | refine wp_nilchk ?_ | refine wp_op (o := .mv _) rfl ?_ | refine wp_op (o := .pick _ _ _) rfl ?_ | refine wp_op (o := .extract _ _) rfl ?_)
    exact wp_ret ⟨rfl, rfl⟩
  repeat (first | refine wp_gop_t ?_ | refine wp_gop_f rfl ?_ | refine wp_gop_u ?_ | refine wp_gcall_t ?_ | refine wp_gcall_f rfl ?_ | refine wp_gcall_u ?_ | refine wp_ite_t ?_ | refine wp_ite_f ?_ | refine wp_faddr ?_ | refine wp_nilchk ?_ | refine wp_op (o := .mv _) rfl ?_ | refine wp_op (o := .pick _ _ _) rfl ?_ | refine wp_op (o := .extract _ _) rfl ?_)
  refine wp_len H (es := 1) (L := ints l) (by repeat (first | exact List.Mem.head _ | apply List.Mem.tail)) ?_
  rw [ints_len]
  repeat (first | refine wp_gop_t ?_ | refine wp_gop_f rfl ?_ | refine wp_gop_u ?_ | refine wp_gcall_t ?_ | refine wp_gcall_f rfl ?_ | refine wp_gcall_u ?_ | refine wp_ite_t ?_ | refine wp_ite_f ?_ | refine wp_faddr ?_ | refine wp_nilchk ?_ | refine wp_op (o := .mv _) rfl ?_ | refine wp_op (o := .pick _ _ _) rfl ?_ | refine wp_op (o := .extract _ _) rfl ?_)
  refine wp_gtr (fun hlt => ?_) (fun hge2 => ?_)
  · repeat (first | refine wp_gop_t ?_ | refine wp_gop_f rfl ?_ | refine wp_gop_u ?_ | refine wp_gcall_t ?_ | refine wp_gcall_f rfl ?_ | refine wp_gcall_u ?_ | refine wp_ite_t ?_ | refine wp_ite_f ?_ | refine wp_faddr ?_ | refine wp_nilchk ?_ | refine wp_op (o := .mv _) rfl ?_ | refine wp_op (o := .pick _ _ _) rfl ?_ | refine wp_op (o := .extract _ _) rfl ?_)
    exact wp_ret ⟨rfl, rfl⟩
  repeat (first | refine wp_gop_t ?_ | refine wp_gop_f rfl ?_ | refine wp_gop_u ?_ | refine wp_gcall_t ?_ | refine wp_gcall_f rfl ?_ | refine wp_gcall_u ?_ | refine wp_ite_t ?_ | refine wp_ite_f ?_ | refine wp_faddr ?_ | refine wp_nilchk ?_ | refine wp_op (o := .mv _) rfl ?_ | refine wp_op (o := .pick _ _ _) rfl ?_ | refine wp_op (o := .extract _ _) rfl ?_)
  have hl : h.length ≤ 100 := by omega
  have hl2 : l.length ≤ 50 := by omega
  have hw := whole_len h
  have ho := only_len h l
  refine wp_callV H (check_ok (H.roSl (es := 9) (by repeat (first | exact List.Mem.head _ | apply List.Mem.tail)))) fun S1 H => ?_
  refine wp_neq (fun hne => ?_) (fun hc => ?_)
  · repeat (first | refine wp_gop_t ?_ | refine wp_gop_f rfl ?_ | refine wp_gop_u ?_ | refine wp_gcall_t ?_ | refine wp_gcall_f rfl ?_ | refine wp_gcall_u ?_ | refine wp_ite_t ?_ | refine wp_ite_f ?_ | refine wp_faddr ?_ | refine wp_nilchk ?_ | refine wp_op (o := .mv _) rfl ?_ | refine wp_op (o := .pick _ _ _) rfl ?_ | refine wp_op (o := .extract _ _) rfl ?_)
    exact wp_ret ⟨rfl, rfl⟩
  have hcnt := whole_count hc
  have hcl := callsN_len h h.length
  repeat (first | refine wp_gop_t ?_ | refine wp_gop_f rfl ?_ | refine wp_gop_u ?_ | refine wp_gcall_t ?_ | refine wp_gcall_f rfl ?_ | refine wp_gcall_u ?_ | refine wp_ite_t ?_ | refine wp_ite_f ?_ | refine wp_faddr ?_ | refine wp_nilchk ?_ | refine wp_op (o := .mv _) rfl ?_ | refine wp_op (o := .pick _ _ _) rfl ?_ | refine wp_op (o := .extract _ _) rfl ?_)
  refine wp_callTup H (whole_ok (h := h) (H.roSl (es := 9) (by repeat (first | exact List.Mem.head _ | apply List.Mem.tail)))) fun w S2 H => ?_
  rw [if_pos hc] at H
  repeat (first | refine wp_gop_t ?_ | refine wp_gop_f rfl ?_ | refine wp_gop_u ?_ | refine wp_gcall_t ?_ | refine wp_gcall_f rfl ?_ | refine wp_gcall_u ?_ | refine wp_ite_t ?_ | refine wp_ite_f ?_ | refine wp_faddr ?_ | refine wp_nilchk ?_ | refine wp_op (o := .mv _) rfl ?_ | refine wp_op (o := .pick _ _ _) rfl ?_ | refine wp_op (o := .extract _ _) rfl ?_)
  refine wp_callTup H (calls_ok (h := h) (H.roSl (es := 9) (by repeat (first | exact List.Mem.head _ | apply List.Mem.tail)))) fun s S3 H => ?_
  rw [if_pos hc] at H
  repeat (first | refine wp_gop_t ?_ | refine wp_gop_f rfl ?_ | refine wp_gop_u ?_ | refine wp_gcall_t ?_ | refine wp_gcall_f rfl ?_ | refine wp_gcall_u ?_ | refine wp_ite_t ?_ | refine wp_ite_f ?_ | refine wp_faddr ?_ | refine wp_nilchk ?_ | refine wp_op (o := .mv _) rfl ?_ | refine wp_op (o := .pick _ _ _) rfl ?_ | refine wp_op (o := .extract _ _) rfl ?_)
  refine wp_neq_f hc ?_
  repeat (first | refine wp_gop_t ?_ | refine wp_gop_f rfl ?_ | refine wp_gop_u ?_ | refine wp_gcall_t ?_ | refine wp_gcall_f rfl ?_ | refine wp_gcall_u ?_ | refine wp_ite_t ?_ | refine wp_ite_f ?_ | refine wp_faddr ?_ | refine wp_nilchk ?_ | refine wp_op (o := .mv _) rfl ?_ | refine wp_op (o := .pick _ _ _) rfl ?_ | refine wp_op (o := .extract _ _) rfl ?_)
  refine wp_neq_f hc ?_
  repeat (first | refine wp_gop_t ?_ | refine wp_gop_f rfl ?_ | refine wp_gop_u ?_ | refine wp_gcall_t ?_ | refine wp_gcall_f rfl ?_ | refine wp_gcall_u ?_ | refine wp_ite_t ?_ | refine wp_ite_f ?_ | refine wp_faddr ?_ | refine wp_nilchk ?_ | refine wp_op (o := .mv _) rfl ?_ | refine wp_op (o := .pick _ _ _) rfl ?_ | refine wp_op (o := .extract _ _) rfl ?_)
  refine wp_callN H (pending_ok (h := whole h) (H.ownSl (n := 1) (v := w) (es := 9) rfl)) fun p S4 H => ?_
  rw [whole_pend hc] at H
  repeat (first | refine wp_gop_t ?_ | refine wp_gop_f rfl ?_ | refine wp_gop_u ?_ | refine wp_gcall_t ?_ | refine wp_gcall_f rfl ?_ | refine wp_gcall_u ?_ | refine wp_ite_t ?_ | refine wp_ite_f ?_ | refine wp_faddr ?_ | refine wp_nilchk ?_ | refine wp_op (o := .mv _) rfl ?_ | refine wp_op (o := .pick _ _ _) rfl ?_ | refine wp_op (o := .extract _ _) rfl ?_)
  refine wp_leno H 0 (es := 1) (L := ints []) rfl ?_
  repeat (first | refine wp_gop_t ?_ | refine wp_gop_f rfl ?_ | refine wp_gop_u ?_ | refine wp_gcall_t ?_ | refine wp_gcall_f rfl ?_ | refine wp_gcall_u ?_ | refine wp_ite_t ?_ | refine wp_ite_f ?_ | refine wp_faddr ?_ | refine wp_nilchk ?_ | refine wp_op (o := .mv _) rfl ?_ | refine wp_op (o := .pick _ _ _) rfl ?_ | refine wp_op (o := .extract _ _) rfl ?_)
  refine wp_neq_f rfl ?_
  repeat (first | refine wp_gop_t ?_ | refine wp_gop_f rfl ?_ | refine wp_gop_u ?_ | refine wp_gcall_t ?_ | refine wp_gcall_f rfl ?_ | refine wp_gcall_u ?_ | refine wp_ite_t ?_ | refine wp_ite_f ?_ | refine wp_faddr ?_ | refine wp_nilchk ?_ | refine wp_op (o := .mv _) rfl ?_ | refine wp_op (o := .pick _ _ _) rfl ?_ | refine wp_op (o := .extract _ _) rfl ?_)
  refine wp_leno H 2 (v := w) (es := 9) (L := evs (whole h)) rfl ?_
  rw [evs_len]
  repeat (first | refine wp_gop_t ?_ | refine wp_gop_f rfl ?_ | refine wp_gop_u ?_ | refine wp_gcall_t ?_ | refine wp_gcall_f rfl ?_ | refine wp_gcall_u ?_ | refine wp_ite_t ?_ | refine wp_ite_f ?_ | refine wp_faddr ?_ | refine wp_nilchk ?_ | refine wp_op (o := .mv _) rfl ?_ | refine wp_op (o := .pick _ _ _) rfl ?_ | refine wp_op (o := .extract _ _) rfl ?_)
  refine wp_leno H 1 (v := s) (es := 10) (L := spansN h h.length) rfl ?_
  rw [spansN_eq, List.length_map]
  repeat (first | refine wp_gop_t ?_ | refine wp_gop_f rfl ?_ | refine wp_gop_u ?_ | refine wp_gcall_t ?_ | refine wp_gcall_f rfl ?_ | refine wp_gcall_u ?_ | refine wp_ite_t ?_ | refine wp_ite_f ?_ | refine wp_faddr ?_ | refine wp_nilchk ?_ | refine wp_op (o := .mv _) rfl ?_ | refine wp_op (o := .pick _ _ _) rfl ?_ | refine wp_op (o := .extract _ _) rfl ?_)
  refine wp_callN H (pending_ok (h := h) (H.roSl (es := 9) (by repeat (first | exact List.Mem.head _ | apply List.Mem.tail)))) fun q S5 H => ?_
  repeat (first | refine wp_gop_t ?_ | refine wp_gop_f rfl ?_ | refine wp_gop_u ?_ | refine wp_gcall_t ?_ | refine wp_gcall_f rfl ?_ | refine wp_gcall_u ?_ | refine wp_ite_t ?_ | refine wp_ite_f ?_ | refine wp_faddr ?_ | refine wp_nilchk ?_ | refine wp_op (o := .mv _) rfl ?_ | refine wp_op (o := .pick _ _ _) rfl ?_ | refine wp_op (o := .extract _ _) rfl ?_)
  refine wp_leno H 0 (es := 1) (L := ints (pend h)) rfl ?_
  rw [ints_len]
  repeat (first | refine wp_gop_t ?_ | refine wp_gop_f rfl ?_ | refine wp_gop_u ?_ | refine wp_gcall_t ?_ | refine wp_gcall_f rfl ?_ | refine wp_gcall_u ?_ | refine wp_ite_t ?_ | refine wp_ite_f ?_ | refine wp_faddr ?_ | refine wp_nilchk ?_ | refine wp_op (o := .mv _) rfl ?_ | refine wp_op (o := .pick _ _ _) rfl ?_ | refine wp_op (o := .extract _ _) rfl ?_)
  refine wp_sub64 (by omega) (by omega) ?_
  repeat (first | refine wp_gop_t ?_ | refine wp_gop_f rfl ?_ | refine wp_gop_u ?_ | refine wp_gcall_t ?_ | refine wp_gcall_f rfl ?_ | refine wp_gcall_u ?_ | refine wp_ite_t ?_ | refine wp_ite_f ?_ | refine wp_faddr ?_ | refine wp_nilchk ?_ | refine wp_op (o := .mv _) rfl ?_ | refine wp_op (o := .pick _ _ _) rfl ?_ | refine wp_op (o := .extract _ _) rfl ?_)
  refine wp_mul (wrap64 (by omega) (by omega)) ?_
  repeat (first | refine wp_gop_t ?_ | refine wp_gop_f rfl ?_ | refine wp_gop_u ?_ | refine wp_gcall_t ?_ | refine wp_gcall_f rfl ?_ | refine wp_gcall_u ?_ | refine wp_ite_t ?_ | refine wp_ite_f ?_ | refine wp_faddr ?_ | refine wp_nilchk ?_ | refine wp_op (o := .mv _) rfl ?_ | refine wp_op (o := .pick _ _ _) rfl ?_ | refine wp_op (o := .extract _ _) rfl ?_)
  refine wp_neq_f (by omega) ?_
  repeat (first | refine wp_gop_t ?_ | refine wp_gop_f rfl ?_ | refine wp_gop_u ?_ | refine wp_gcall_t ?_ | refine wp_gcall_f rfl ?_ | refine wp_gcall_u ?_ | refine wp_ite_t ?_ | refine wp_ite_f ?_ | refine wp_faddr ?_ | refine wp_nilchk ?_ | refine wp_op (o := .mv _) rfl ?_ | refine wp_op (o := .pick _ _ _) rfl ?_ | refine wp_op (o := .extract _ _) rfl ?_)
  refine wp_callV H (check_ok (h := whole h) (H.ownSl (n := 3) (v := w) (es := 9) rfl)) fun S6 H => ?_
  repeat (first | refine wp_gop_t ?_ | refine wp_gop_f rfl ?_ | refine wp_gop_u ?_ | refine wp_gcall_t ?_ | refine wp_gcall_f rfl ?_ | refine wp_gcall_u ?_ | refine wp_ite_t ?_ | refine wp_ite_f ?_ | refine wp_faddr ?_ | refine wp_nilchk ?_ | refine wp_op (o := .mv _) rfl ?_ | refine wp_op (o := .pick _ _ _) rfl ?_ | refine wp_op (o := .extract _ _) rfl ?_)
  refine wp_eql_t (whole_valid hc) ?_
  repeat (first | refine wp_gop_t ?_ | refine wp_gop_f rfl ?_ | refine wp_gop_u ?_ | refine wp_gcall_t ?_ | refine wp_gcall_f rfl ?_ | refine wp_gcall_u ?_ | refine wp_ite_t ?_ | refine wp_ite_f ?_ | refine wp_faddr ?_ | refine wp_nilchk ?_ | refine wp_op (o := .mv _) rfl ?_ | refine wp_op (o := .pick _ _ _) rfl ?_ | refine wp_op (o := .extract _ _) rfl ?_)
  refine wp_callN H (only_ok (h := h) (l := l) (H.roSl (es := 9) (by repeat (first | exact List.Mem.head _ | apply List.Mem.tail))) (H.roSl (es := 1) (by repeat (first | exact List.Mem.head _ | apply List.Mem.tail))) (by omega) (by omega)) fun o S7 H => ?_
  repeat (first | refine wp_gop_t ?_ | refine wp_gop_f rfl ?_ | refine wp_gop_u ?_ | refine wp_gcall_t ?_ | refine wp_gcall_f rfl ?_ | refine wp_gcall_u ?_ | refine wp_ite_t ?_ | refine wp_ite_f ?_ | refine wp_faddr ?_ | refine wp_nilchk ?_ | refine wp_op (o := .mv _) rfl ?_ | refine wp_op (o := .pick _ _ _) rfl ?_ | refine wp_op (o := .extract _ _) rfl ?_)
  refine wp_callV H (check_ok (h := only h l) (H.ownSl (n := 0) rfl)) fun S8 H => ?_
  repeat (first | refine wp_gop_t ?_ | refine wp_gop_f rfl ?_ | refine wp_gop_u ?_ | refine wp_gcall_t ?_ | refine wp_gcall_f rfl ?_ | refine wp_gcall_u ?_ | refine wp_ite_t ?_ | refine wp_ite_f ?_ | refine wp_faddr ?_ | refine wp_nilchk ?_ | refine wp_op (o := .mv _) rfl ?_ | refine wp_op (o := .pick _ _ _) rfl ?_ | refine wp_op (o := .extract _ _) rfl ?_)
  refine wp_eql_t (only_valid l hc) ?_
  repeat (first | refine wp_gop_t ?_ | refine wp_gop_f rfl ?_ | refine wp_gop_u ?_ | refine wp_gcall_t ?_ | refine wp_gcall_f rfl ?_ | refine wp_gcall_u ?_ | refine wp_ite_t ?_ | refine wp_ite_f ?_ | refine wp_faddr ?_ | refine wp_nilchk ?_ | refine wp_op (o := .mv _) rfl ?_ | refine wp_op (o := .pick _ _ _) rfl ?_ | refine wp_op (o := .extract _ _) rfl ?_)
  refine wp_len H (es := 9) (L := evs h) (by repeat (first | exact List.Mem.head _ | apply List.Mem.tail)) ?_
  rw [evs_len]
  repeat (first | refine wp_gop_t ?_ | refine wp_gop_f rfl ?_ | refine wp_gop_u ?_ | refine wp_gcall_t ?_ | refine wp_gcall_f rfl ?_ | refine wp_gcall_u ?_ | refine wp_ite_t ?_ | refine wp_ite_f ?_ | refine wp_faddr ?_ | refine wp_nilchk ?_ | refine wp_op (o := .mv _) rfl ?_ | refine wp_op (o := .pick _ _ _) rfl ?_ | refine wp_op (o := .extract _ _) rfl ?_)
  refine wp_add64 (by omega) (by omega) ?_
  repeat (first | refine wp_gop_t ?_ | refine wp_gop_f rfl ?_ | refine wp_gop_u ?_ | refine wp_gcall_t ?_ | refine wp_gcall_f rfl ?_ | refine wp_gcall_u ?_ | refine wp_ite_t ?_ | refine wp_ite_f ?_ | refine wp_faddr ?_ | refine wp_nilchk ?_ | refine wp_op (o := .mv _) rfl ?_ | refine wp_op (o := .pick _ _ _) rfl ?_ | refine wp_op (o := .extract _ _) rfl ?_)
  have hp : 0 ≤ pick cut ((h.length : Int) + 1) ∧ pick cut ((h.length : Int) + 1) ≤ h.length := by
    unfold pick
    rw [if_neg (by omega)]
    have := Int.emod_nonneg cut (by omega : ((h.length : Int) + 1) ≠ 0)
    have := Int.emod_lt_of_pos cut (by omega : (0 : Int) < (h.length : Int) + 1)
    omega
  obtain ⟨m, hm⟩ : ∃ m : Nat, pick cut ((h.length : Int) + 1) = (m : Int) := ⟨(pick cut ((h.length : Int) + 1)).toNat, by omega⟩
  refine wp_call (wpC_mono (pick_ok rfl rfl (by omega)) fun r S9 ⟨h1, h2⟩ => ?_)
  rw [h1, h2, hm]
  repeat (first | refine wp_gop_t ?_ | refine wp_gop_f rfl ?_ | refine wp_gop_u ?_ | refine wp_gcall_t ?_ | refine wp_gcall_f rfl ?_ | refine wp_gcall_u ?_ | refine wp_ite_t ?_ | refine wp_ite_f ?_ | refine wp_faddr ?_ | refine wp_nilchk ?_ | refine wp_op (o := .mv _) rfl ?_ | refine wp_op (o := .pick _ _ _) rfl ?_ | refine wp_op (o := .extract _ _) rfl ?_)
  refine wp_prefix (i := m) H (es := 9) (L := evs h) (by repeat (first | exact List.Mem.head _ | apply List.Mem.tail)) (by rw [evs_len]; omega) fun pv H => ?_
  rw [evs_take] at H
  repeat (first | refine wp_gop_t ?_ | refine wp_gop_f rfl ?_ | refine wp_gop_u ?_ | refine wp_gcall_t ?_ | refine wp_gcall_f rfl ?_ | refine wp_gcall_u ?_ | refine wp_ite_t ?_ | refine wp_ite_f ?_ | refine wp_faddr ?_ | refine wp_nilchk ?_ | refine wp_op (o := .mv _) rfl ?_ | refine wp_op (o := .pick _ _ _) rfl ?_ | refine wp_op (o := .extract _ _) rfl ?_)
  refine wp_callV H (check_ok (h := h.take m) (H.roSl (es := 9) (by repeat (first | exact List.Mem.head _ | apply List.Mem.tail)))) fun S10 H => ?_
  repeat (first | refine wp_gop_t ?_ | refine wp_gop_f rfl ?_ | refine wp_gop_u ?_ | refine wp_gcall_t ?_ | refine wp_gcall_f rfl ?_ | refine wp_gcall_u ?_ | refine wp_ite_t ?_ | refine wp_ite_f ?_ | refine wp_faddr ?_ | refine wp_nilchk ?_ | refine wp_op (o := .mv _) rfl ?_ | refine wp_op (o := .pick _ _ _) rfl ?_ | refine wp_op (o := .extract _ _) rfl ?_)
  refine wp_eql_t (take_valid m hc) ?_
  repeat (first | refine wp_gop_t ?_ | refine wp_gop_f rfl ?_ | refine wp_gop_u ?_ | refine wp_gcall_t ?_ | refine wp_gcall_f rfl ?_ | refine wp_gcall_u ?_ | refine wp_ite_t ?_ | refine wp_ite_f ?_ | refine wp_faddr ?_ | refine wp_nilchk ?_ | refine wp_op (o := .mv _) rfl ?_ | refine wp_op (o := .pick _ _ _) rfl ?_ | refine wp_op (o := .extract _ _) rfl ?_)
  exact wp_ret ⟨rfl, rfl⟩
end Go.Abs
