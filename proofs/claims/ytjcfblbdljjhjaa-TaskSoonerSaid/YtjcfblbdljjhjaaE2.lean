/- functions of this cut: what they compute, in the abstract machine. Conditions: stated in each theorem -/
import Derived.Test.YtjcfblbdljjhjaaE1
set_option linter.unusedVariables false
set_option linter.unusedSimpArgs false
namespace Go.Abs
open Go.Proofs
set_option maxRecDepth 100000
theorem count_le {x : Tk} {a b : Int} (ht : timed x = true) (h : a ≤ b) : count x a b = since x.first x.every b - since x.first x.every a := by
  unfold count
  split
  · rfl
  · rename_i k
    have : a = b := by
      by_cases e : a = b
      · exact e
      · exact absurd ⟨ht, by omega⟩ k
    subst this
    omega
theorem count_add {x : Tk} {a b c : Int} (h1 : a ≤ b) (h2 : b ≤ c) : count x a b + count x b c = count x a c := by
  by_cases ht : timed x = true
  · rw [count_le ht h1, count_le ht h2, count_le ht (by omega)]; omega
  · unfold count
    rw [if_neg (fun k => ht k.1), if_neg (fun k => ht k.1), if_neg (fun k => ht k.1)]; rfl
theorem allN_add {l : List Tk} {a b c : Int} (h1 : a ≤ b) (h2 : b ≤ c) : ∀ i, allN l a b i + allN l b c i = allN l a c i
  | 0 => rfl
  | i + 1 => by
    have := allN_add (l := l) h1 h2 i
    unfold allN
    cases l[i]? with
    | none => simp only; omega
    | some x =>
      have := count_add (x := x) h1 h2
      simp only
      omega
theorem tl_get {f e s : Int} {n i : Nat} (h : i < n) : (ints (tl f e s n))[i]? = some [I (f + (s + (i : Int)) * e)] := by simp [ints, tl, h]
theorem sums_row {x : Tk} {a b : Int} {i : Nat} (h : i < cnum x a b 50) : ∃ s : Int, s = since x.first x.every a ∧ timed x = true ∧ 0 ≤ s + i ∧ s + i < many x.first x.every ∧ a ≤ x.first + (s + (i : Int)) * x.every ∧ x.first + (s + (i : Int)) * x.every < b := by
  refine ⟨_, rfl, ?_⟩
  have hc : (i : Int) < count x a b := by unfold cnum at h; omega
  have hpos : timed x = true ∧ a < b := by
    unfold count at hc
    split at hc
    · assumption
    · omega
  have hT := timed_ok hpos.1
  rw [count_le hpos.1 (by omega)] at hc
  have sa := since_bd (now := a) hT
  have sb := since_bd (now := b) hT
  generalize hs : since x.first x.every a = s at *
  have t1 := time_lt (b := a) (i := s + (i : Int)) hT (by omega) (by omega)
  have t2 := time_lt (b := b) (i := s + (i : Int)) hT (by omega) (by omega)
  refine ⟨hpos.1, by omega, by omega, ?_, t2.2 (by omega)⟩
  have : ¬ x.first + (s + (i : Int)) * x.every < a := fun k => by have := t1.1 k; omega
  omega
theorem taskSums_ok {S : AH} {v : AV} {l : List Tk} {a b c k : Int} (hv : RoSl S v 4 (tks l)) : wpC EM (.fn (.func 8) [] []) [v, I a, I b, I c, I k] S fun r _ => r = B true := by
  refine wpC_fn (b := Try.a8) rfl rfl ?_
  have H := Cx.ro1 hv
  unfold Try.a8
  refine known_ok ?_
  refine wp_callV H (check_ok (H.roSl (by repeat (first | exact List.Mem.head _ | apply List.Mem.tail)))) fun S1 H => ?_
  refine wp_neq (fun hne => ?_) (fun he => ?_)
  · repeat (first | refine wp_gop_t ?_ | refine wp_gop_f rfl ?_ | refine wp_gop_u ?_ | refine wp_gcall_t ?_ | refine wp_gcall_f rfl ?_ | refine wp_gcall_u ?_ | refine wp_ite_t ?_ | refine wp_ite_f ?_ | refine wp_faddr ?_ | refine wp_nilchk ?_ | refine wp_op (o := .mv _) rfl ?_ | refine wp_op (o := .pick _ _ _) rfl ?_ | refine wp_op (o := .extract _ _) rfl ?_)
    exact wp_ret ⟨rfl, rfl⟩
  have hlen := tchk_len he
  repeat (first | refine wp_gop_t ?_ | refine wp_gop_f rfl ?_ | refine wp_gop_u ?_ | refine wp_gcall_t ?_ | refine wp_gcall_f rfl ?_ | refine wp_gcall_u ?_ | refine wp_ite_t ?_ | refine wp_ite_f ?_ | refine wp_faddr ?_ | refine wp_nilchk ?_ | refine wp_op (o := .mv _) rfl ?_ | refine wp_op (o := .pick _ _ _) rfl ?_ | refine wp_op (o := .extract _ _) rfl ?_)
  refine wp_len H (by repeat (first | exact List.Mem.head _ | apply List.Mem.tail)) ?_
  rw [tks_len]
  repeat (first | refine wp_gop_t ?_ | refine wp_gop_f rfl ?_ | refine wp_gop_u ?_ | refine wp_gcall_t ?_ | refine wp_gcall_f rfl ?_ | refine wp_gcall_u ?_ | refine wp_ite_t ?_ | refine wp_ite_f ?_ | refine wp_faddr ?_ | refine wp_nilchk ?_ | refine wp_op (o := .mv _) rfl ?_ | refine wp_op (o := .pick _ _ _) rfl ?_ | refine wp_op (o := .extract _ _) rfl ?_)
  refine wp_eql (fun h0 => ?_) (fun h0 => ?_)
  · repeat (first | refine wp_gop_t ?_ | refine wp_gop_f rfl ?_ | refine wp_gop_u ?_ | refine wp_gcall_t ?_ | refine wp_gcall_f rfl ?_ | refine wp_gcall_u ?_ | refine wp_ite_t ?_ | refine wp_ite_f ?_ | refine wp_faddr ?_ | refine wp_nilchk ?_ | refine wp_op (o := .mv _) rfl ?_ | refine wp_op (o := .pick _ _ _) rfl ?_ | refine wp_op (o := .extract _ _) rfl ?_)
    exact wp_ret ⟨rfl, rfl⟩
  repeat (first | refine wp_gop_t ?_ | refine wp_gop_f rfl ?_ | refine wp_gop_u ?_ | refine wp_gcall_t ?_ | refine wp_gcall_f rfl ?_ | refine wp_gcall_u ?_ | refine wp_ite_t ?_ | refine wp_ite_f ?_ | refine wp_faddr ?_ | refine wp_nilchk ?_ | refine wp_op (o := .mv _) rfl ?_ | refine wp_op (o := .pick _ _ _) rfl ?_ | refine wp_op (o := .extract _ _) rfl ?_)
  refine wp_len H (by repeat (first | exact List.Mem.head _ | apply List.Mem.tail)) ?_
  rw [tks_len]
  repeat (first | refine wp_gop_t ?_ | refine wp_gop_f rfl ?_ | refine wp_gop_u ?_ | refine wp_gcall_t ?_ | refine wp_gcall_f rfl ?_ | refine wp_gcall_u ?_ | refine wp_ite_t ?_ | refine wp_ite_f ?_ | refine wp_faddr ?_ | refine wp_nilchk ?_ | refine wp_op (o := .mv _) rfl ?_ | refine wp_op (o := .pick _ _ _) rfl ?_ | refine wp_op (o := .extract _ _) rfl ?_)
  refine wp_gtr_f (by omega) ?_
  repeat (first | refine wp_gop_t ?_ | refine wp_gop_f rfl ?_ | refine wp_gop_u ?_ | refine wp_gcall_t ?_ | refine wp_gcall_f rfl ?_ | refine wp_gcall_u ?_ | refine wp_ite_t ?_ | refine wp_ite_f ?_ | refine wp_faddr ?_ | refine wp_nilchk ?_ | refine wp_op (o := .mv _) rfl ?_ | refine wp_op (o := .pick _ _ _) rfl ?_ | refine wp_op (o := .extract _ _) rfl ?_)
  refine wp_len H (by repeat (first | exact List.Mem.head _ | apply List.Mem.tail)) ?_
  rw [tks_len]
  obtain ⟨j, hj, hjl⟩ : ∃ j : Nat, pick k (l.length : Int) = (j : Int) ∧ j < l.length := by
    have hp : 0 ≤ pick k (l.length : Int) ∧ pick k (l.length : Int) < l.length := by
      unfold pick
      rw [if_neg (by omega)]
      exact ⟨Int.emod_nonneg _ (by omega), Int.emod_lt_of_pos _ (by omega)⟩
    exact ⟨(pick k (l.length : Int)).toNat, by omega, by omega⟩
  refine wp_call (wpC_mono (pick_ok rfl rfl (by omega)) fun r S' ⟨e1, e2⟩ => ?_)
  rw [e1, e2, hj]
  clear e1 e2
  refine wp_saddr (i := j) H (by repeat (first | exact List.Mem.head _ | apply List.Mem.tail)) (tks_get hjl) fun p off H => ?_
  refine wp_loada H (cs := l[j].cs) (by repeat (first | exact List.Mem.head _ | apply List.Mem.tail)) (Nat.le_of_ble_eq_true rfl) ?_
  refine wp_alloc H fun b0 S3 H => ?_
  refine wp_store H 0 rfl rfl rfl (Nat.le_of_ble_eq_true rfl) fun S4 H => ?_
  replace H : Cx S [] S4 [] [.pt b0 0 l[j].cs, .pt p off l[j].cs, .sl v 4 (tks l)] := H.freeze (i := 0) (c := l[j].cs) rfl
  generalize hx : l[j] = x at H
  -- behind the first part
  have rest : ∀ S5, Cx S [] S5 [] [.pt b0 0 x.cs, .pt p off x.cs, .sl v 4 (tks l)] → wp EM (.op (.load 4 true (.ptr b0 0)) fun v54 => Try.a8x15 [v, I a, I b, I c, I k] (B true) (.ptr b0 0) v54) S5 fun t vs S' => t = .ret ∧ oneOf vs = B true := by
    intro S5 H
    unfold Try.a8x15
    refine wp_loada H (cs := x.cs) (by repeat (first | exact List.Mem.head _ | apply List.Mem.tail)) (Nat.le_of_ble_eq_true rfl) ?_
    refine wp_callN H times_ok fun w S6 H => ?_
    replace H : Cx S [] S6 [] [.sl w 1 (ints (ctimes x a b 50)), .pt b0 0 x.cs, .pt p off x.cs, .sl v 4 (tks l)] := H.toRo (i := 0) rfl
    unfold ctimes at H
    refine wp_len (v := w) (es := 1) H (by repeat (first | exact List.Mem.head _ | apply List.Mem.tail)) ?_
    rw [ints_len, tl_len]
    refine wp_loada H (cs := x.cs) (by repeat (first | exact List.Mem.head _ | apply List.Mem.tail)) (Nat.le_of_ble_eq_true rfl) ?_
    refine wp_callV H count_ok fun S7 H => ?_
    refine wp_min ?_
    have hcb := count_bd x a b
    refine wp_neq_f (by unfold cnum; omega) ?_
    repeat (first | refine wp_gop_t ?_ | refine wp_gop_f rfl ?_ | refine wp_gop_u ?_ | refine wp_gcall_t ?_ | refine wp_gcall_f rfl ?_ | refine wp_gcall_u ?_ | refine wp_ite_t ?_ | refine wp_ite_f ?_ | refine wp_faddr ?_ | refine wp_nilchk ?_ | refine wp_op (o := .mv _) rfl ?_ | refine wp_op (o := .pick _ _ _) rfl ?_ | refine wp_op (o := .extract _ _) rfl ?_)
    refine wp_bind (wp_loop (wpL_for (cnum x a b 50) (fun i vs S1 => ∃ u : AV, vs = [I (i : Int), u] ∧ Cx S [] S1 [] [.sl w 1 (ints (tl x.first x.every (since x.first x.every a) (cnum x a b 50))), .pt b0 0 x.cs, .pt p off x.cs, .sl v 4 (tks l)]) ?_ ?_ ⟨_, rfl, H⟩))
    · rintro i vs S8 hlt ⟨u, rfl, H⟩
      refine wp_len (v := w) (es := 1) H (by repeat (first | exact List.Mem.head _ | apply List.Mem.tail)) ?_
      rw [ints_len, tl_len]
      refine wp_lss_t (by omega) ?_
      repeat (first | refine wp_gop_t ?_ | refine wp_gop_f rfl ?_ | refine wp_gop_u ?_ | refine wp_gcall_t ?_ | refine wp_gcall_f rfl ?_ | refine wp_gcall_u ?_ | refine wp_ite_t ?_ | refine wp_ite_f ?_ | refine wp_faddr ?_ | refine wp_nilchk ?_ | refine wp_op (o := .mv _) rfl ?_ | refine wp_op (o := .pick _ _ _) rfl ?_ | refine wp_op (o := .extract _ _) rfl ?_)
      refine wp_bind ?_
      obtain ⟨s, hs, ht, r1, r2, r3, r4⟩ := sums_row hlt
      have hcn : cnum x a b 50 ≤ 50 := by unfold cnum; omega
      have hT := timed_ok ht
      have hnx := (apart_at ht r1 r2).1
      rw [← hs] at H ⊢
      refine wp_saddr (v := w) (es := 1) (i := i) H (by repeat (first | exact List.Mem.head _ | apply List.Mem.tail)) (tl_get hlt) fun q qo H => ?_
      refine wp_load0 (id := q) (off := qo) H (cs := [I (x.first + (s + (i : Int)) * x.every)]) (by repeat (first | exact List.Mem.head _ | apply List.Mem.tail)) rfl ?_
      refine wp_lss_f (by omega) ?_
      repeat (first | refine wp_gop_t ?_ | refine wp_gop_f rfl ?_ | refine wp_gop_u ?_ | refine wp_gcall_t ?_ | refine wp_gcall_f rfl ?_ | refine wp_gcall_u ?_ | refine wp_ite_t ?_ | refine wp_ite_f ?_ | refine wp_faddr ?_ | refine wp_nilchk ?_ | refine wp_op (o := .mv _) rfl ?_ | refine wp_op (o := .pick _ _ _) rfl ?_ | refine wp_op (o := .extract _ _) rfl ?_)
      refine wp_saddr (v := w) (es := 1) (i := i) H (by repeat (first | exact List.Mem.head _ | apply List.Mem.tail)) (tl_get hlt) fun q2 qo2 H => ?_
      repeat (first | refine wp_gop_t ?_ | refine wp_gop_f rfl ?_ | refine wp_gop_u ?_ | refine wp_gcall_t ?_ | refine wp_gcall_f rfl ?_ | refine wp_gcall_u ?_ | refine wp_ite_t ?_ | refine wp_ite_f ?_ | refine wp_faddr ?_ | refine wp_nilchk ?_ | refine wp_op (o := .mv _) rfl ?_ | refine wp_op (o := .pick _ _ _) rfl ?_ | refine wp_op (o := .extract _ _) rfl ?_)
      refine wp_load0 (id := q2) (off := qo2) H (cs := [I (x.first + (s + (i : Int)) * x.every)]) (by repeat (first | exact List.Mem.head _ | apply List.Mem.tail)) rfl ?_
      repeat (first | refine wp_gop_t ?_ | refine wp_gop_f rfl ?_ | refine wp_gop_u ?_ | refine wp_gcall_t ?_ | refine wp_gcall_f rfl ?_ | refine wp_gcall_u ?_ | refine wp_ite_t ?_ | refine wp_ite_f ?_ | refine wp_faddr ?_ | refine wp_nilchk ?_ | refine wp_op (o := .mv _) rfl ?_ | refine wp_op (o := .pick _ _ _) rfl ?_ | refine wp_op (o := .extract _ _) rfl ?_)
      refine wp_geq_f (by omega) ?_
      repeat (first | refine wp_gop_t ?_ | refine wp_gop_f rfl ?_ | refine wp_gop_u ?_ | refine wp_gcall_t ?_ | refine wp_gcall_f rfl ?_ | refine wp_gcall_u ?_ | refine wp_ite_t ?_ | refine wp_ite_f ?_ | refine wp_faddr ?_ | refine wp_nilchk ?_ | refine wp_op (o := .mv _) rfl ?_ | refine wp_op (o := .pick _ _ _) rfl ?_ | refine wp_op (o := .extract _ _) rfl ?_)
      refine wp_loada H (cs := x.cs) (id := b0) (off := 0) (by repeat (first | exact List.Mem.head _ | apply List.Mem.tail)) (Nat.le_of_ble_eq_true rfl) ?_
      repeat (first | refine wp_gop_t ?_ | refine wp_gop_f rfl ?_ | refine wp_gop_u ?_ | refine wp_gcall_t ?_ | refine wp_gcall_f rfl ?_ | refine wp_gcall_u ?_ | refine wp_ite_t ?_ | refine wp_ite_f ?_ | refine wp_faddr ?_ | refine wp_nilchk ?_ | refine wp_op (o := .mv _) rfl ?_ | refine wp_op (o := .pick _ _ _) rfl ?_ | refine wp_op (o := .extract _ _) rfl ?_)
      refine wp_saddr (v := w) (es := 1) (i := i) H (by repeat (first | exact List.Mem.head _ | apply List.Mem.tail)) (tl_get hlt) fun q3 qo3 H => ?_
      repeat (first | refine wp_gop_t ?_ | refine wp_gop_f rfl ?_ | refine wp_gop_u ?_ | refine wp_gcall_t ?_ | refine wp_gcall_f rfl ?_ | refine wp_gcall_u ?_ | refine wp_ite_t ?_ | refine wp_ite_f ?_ | refine wp_faddr ?_ | refine wp_nilchk ?_ | refine wp_op (o := .mv _) rfl ?_ | refine wp_op (o := .pick _ _ _) rfl ?_ | refine wp_op (o := .extract _ _) rfl ?_)
      refine wp_load0 (id := q3) (off := qo3) H (cs := [I (x.first + (s + (i : Int)) * x.every)]) (by repeat (first | exact List.Mem.head _ | apply List.Mem.tail)) rfl ?_
      repeat (first | refine wp_gop_t ?_ | refine wp_gop_f rfl ?_ | refine wp_gop_u ?_ | refine wp_gcall_t ?_ | refine wp_gcall_f rfl ?_ | refine wp_gcall_u ?_ | refine wp_ite_t ?_ | refine wp_ite_f ?_ | refine wp_faddr ?_ | refine wp_nilchk ?_ | refine wp_op (o := .mv _) rfl ?_ | refine wp_op (o := .pick _ _ _) rfl ?_ | refine wp_op (o := .extract _ _) rfl ?_)
      refine wp_saddr (v := w) (es := 1) (i := i) H (by repeat (first | exact List.Mem.head _ | apply List.Mem.tail)) (tl_get hlt) fun q4 qo4 H => ?_
      repeat (first | refine wp_gop_t ?_ | refine wp_gop_f rfl ?_ | refine wp_gop_u ?_ | refine wp_gcall_t ?_ | refine wp_gcall_f rfl ?_ | refine wp_gcall_u ?_ | refine wp_ite_t ?_ | refine wp_ite_f ?_ | refine wp_faddr ?_ | refine wp_nilchk ?_ | refine wp_op (o := .mv _) rfl ?_ | refine wp_op (o := .pick _ _ _) rfl ?_ | refine wp_op (o := .extract _ _) rfl ?_)
      refine wp_load0 (id := q4) (off := qo4) H (cs := [I (x.first + (s + (i : Int)) * x.every)]) (by repeat (first | exact List.Mem.head _ | apply List.Mem.tail)) rfl ?_
      repeat (first | refine wp_gop_t ?_ | refine wp_gop_f rfl ?_ | refine wp_gop_u ?_ | refine wp_gcall_t ?_ | refine wp_gcall_f rfl ?_ | refine wp_gcall_u ?_ | refine wp_ite_t ?_ | refine wp_ite_f ?_ | refine wp_faddr ?_ | refine wp_nilchk ?_ | refine wp_op (o := .mv _) rfl ?_ | refine wp_op (o := .pick _ _ _) rfl ?_ | refine wp_op (o := .extract _ _) rfl ?_)
      refine wp_callV H (nextIs_ok (x := x)) fun S9 H => ?_
      rw [hnx]
      repeat (first | refine wp_gop_t ?_ | refine wp_gop_f rfl ?_ | refine wp_gop_u ?_ | refine wp_gcall_t ?_ | refine wp_gcall_f rfl ?_ | refine wp_gcall_u ?_ | refine wp_ite_t ?_ | refine wp_ite_f ?_ | refine wp_faddr ?_ | refine wp_nilchk ?_ | refine wp_op (o := .mv _) rfl ?_ | refine wp_op (o := .pick _ _ _) rfl ?_ | refine wp_op (o := .extract _ _) rfl ?_)
      refine wp_not ?_
      repeat (first | refine wp_gop_t ?_ | refine wp_gop_f rfl ?_ | refine wp_gop_u ?_ | refine wp_gcall_t ?_ | refine wp_gcall_f rfl ?_ | refine wp_gcall_u ?_ | refine wp_ite_t ?_ | refine wp_ite_f ?_ | refine wp_faddr ?_ | refine wp_nilchk ?_ | refine wp_op (o := .mv _) rfl ?_ | refine wp_op (o := .pick _ _ _) rfl ?_ | refine wp_op (o := .extract _ _) rfl ?_)
      have fin : ∀ S10 (u : AV), Cx S [] S10 [] [.sl w 1 (ints (tl x.first x.every s (cnum x a b 50))), .pt b0 0 x.cs, .pt p off x.cs, .sl v 4 (tks l)] → True := fun _ _ _ => trivial
      refine wp_gtr (fun hi => ?_) (fun hi => ?_)
      · obtain ⟨m, rfl⟩ : ∃ m : Nat, i = m + 1 := ⟨i - 1, by omega⟩
        repeat (first | refine wp_gop_t ?_ | refine wp_gop_f rfl ?_ | refine wp_gop_u ?_ | refine wp_gcall_t ?_ | refine wp_gcall_f rfl ?_ | refine wp_gcall_u ?_ | refine wp_ite_t ?_ | refine wp_ite_f ?_ | refine wp_faddr ?_ | refine wp_nilchk ?_ | refine wp_op (o := .mv _) rfl ?_ | refine wp_op (o := .pick _ _ _) rfl ?_ | refine wp_op (o := .extract _ _) rfl ?_)
        refine wp_saddr (v := w) (es := 1) (i := m + 1) H (by repeat (first | exact List.Mem.head _ | apply List.Mem.tail)) (tl_get hlt) fun q5 qo5 H => ?_
        repeat (first | refine wp_gop_t ?_ | refine wp_gop_f rfl ?_ | refine wp_gop_u ?_ | refine wp_gcall_t ?_ | refine wp_gcall_f rfl ?_ | refine wp_gcall_u ?_ | refine wp_ite_t ?_ | refine wp_ite_f ?_ | refine wp_faddr ?_ | refine wp_nilchk ?_ | refine wp_op (o := .mv _) rfl ?_ | refine wp_op (o := .pick _ _ _) rfl ?_ | refine wp_op (o := .extract _ _) rfl ?_)
        refine wp_load0 (id := q5) (off := qo5) H (cs := [I (x.first + (s + ((m + 1 : Nat) : Int)) * x.every)]) (by repeat (first | exact List.Mem.head _ | apply List.Mem.tail)) rfl ?_
        repeat (first | refine wp_gop_t ?_ | refine wp_gop_f rfl ?_ | refine wp_gop_u ?_ | refine wp_gcall_t ?_ | refine wp_gcall_f rfl ?_ | refine wp_gcall_u ?_ | refine wp_ite_t ?_ | refine wp_ite_f ?_ | refine wp_faddr ?_ | refine wp_nilchk ?_ | refine wp_op (o := .mv _) rfl ?_ | refine wp_op (o := .pick _ _ _) rfl ?_ | refine wp_op (o := .extract _ _) rfl ?_)
        refine wp_sub (c := (m : Int)) (by rw [wrap64 (by omega) (by omega)]; omega) ?_
        repeat (first | refine wp_gop_t ?_ | refine wp_gop_f rfl ?_ | refine wp_gop_u ?_ | refine wp_gcall_t ?_ | refine wp_gcall_f rfl ?_ | refine wp_gcall_u ?_ | refine wp_ite_t ?_ | refine wp_ite_f ?_ | refine wp_faddr ?_ | refine wp_nilchk ?_ | refine wp_op (o := .mv _) rfl ?_ | refine wp_op (o := .pick _ _ _) rfl ?_ | refine wp_op (o := .extract _ _) rfl ?_)
        refine wp_saddr (v := w) (es := 1) (i := m) H (by repeat (first | exact List.Mem.head _ | apply List.Mem.tail)) (tl_get (by omega)) fun q6 qo6 H => ?_
        repeat (first | refine wp_gop_t ?_ | refine wp_gop_f rfl ?_ | refine wp_gop_u ?_ | refine wp_gcall_t ?_ | refine wp_gcall_f rfl ?_ | refine wp_gcall_u ?_ | refine wp_ite_t ?_ | refine wp_ite_f ?_ | refine wp_faddr ?_ | refine wp_nilchk ?_ | refine wp_op (o := .mv _) rfl ?_ | refine wp_op (o := .pick _ _ _) rfl ?_ | refine wp_op (o := .extract _ _) rfl ?_)
        refine wp_load0 (id := q6) (off := qo6) H (cs := [I (x.first + (s + (m : Int)) * x.every)]) (by repeat (first | exact List.Mem.head _ | apply List.Mem.tail)) rfl ?_
        repeat (first | refine wp_gop_t ?_ | refine wp_gop_f rfl ?_ | refine wp_gop_u ?_ | refine wp_gcall_t ?_ | refine wp_gcall_f rfl ?_ | refine wp_gcall_u ?_ | refine wp_ite_t ?_ | refine wp_ite_f ?_ | refine wp_faddr ?_ | refine wp_nilchk ?_ | refine wp_op (o := .mv _) rfl ?_ | refine wp_op (o := .pick _ _ _) rfl ?_ | refine wp_op (o := .extract _ _) rfl ?_)
        have he := hT.e0
        have e1 : (s + ((m + 1 : Nat) : Int)) * x.every = (s + (m : Int)) * x.every + x.every := by
          rw [show s + ((m + 1 : Nat) : Int) = (s + (m : Int)) + 1 by omega, Int.add_mul]; omega
        refine wp_leq_f (by omega) ?_
        repeat (first | refine wp_gop_t ?_ | refine wp_gop_f rfl ?_ | refine wp_gop_u ?_ | refine wp_gcall_t ?_ | refine wp_gcall_f rfl ?_ | refine wp_gcall_u ?_ | refine wp_ite_t ?_ | refine wp_ite_f ?_ | refine wp_faddr ?_ | refine wp_nilchk ?_ | refine wp_op (o := .mv _) rfl ?_ | refine wp_op (o := .pick _ _ _) rfl ?_ | refine wp_op (o := .extract _ _) rfl ?_)
        refine wp_ret ?_
        show wp EM _ _ _
        exact wp_add64 (by omega) (by omega) (wp_ret (.inl ⟨rfl, _, rfl, H.dropRo (by simp)⟩))
      · repeat (first | refine wp_gop_t ?_ | refine wp_gop_f rfl ?_ | refine wp_gop_u ?_ | refine wp_gcall_t ?_ | refine wp_gcall_f rfl ?_ | refine wp_gcall_u ?_ | refine wp_ite_t ?_ | refine wp_ite_f ?_ | refine wp_faddr ?_ | refine wp_nilchk ?_ | refine wp_op (o := .mv _) rfl ?_ | refine wp_op (o := .pick _ _ _) rfl ?_ | refine wp_op (o := .extract _ _) rfl ?_)
        refine wp_ret ?_
        show wp EM _ _ _
        exact wp_add64 (by omega) (by omega) (wp_ret (.inl ⟨rfl, _, rfl, H.dropRo (by simp)⟩))
    · rintro vs S8 ⟨u, rfl, H⟩
      refine wp_len (v := w) (es := 1) H (by repeat (first | exact List.Mem.head _ | apply List.Mem.tail)) ?_
      rw [ints_len, tl_len]
      refine wp_lss_f (by omega) ?_
      repeat (first | refine wp_gop_t ?_ | refine wp_gop_f rfl ?_ | refine wp_gop_u ?_ | refine wp_gcall_t ?_ | refine wp_gcall_f rfl ?_ | refine wp_gcall_u ?_ | refine wp_ite_t ?_ | refine wp_ite_f ?_ | refine wp_faddr ?_ | refine wp_nilchk ?_ | refine wp_op (o := .mv _) rfl ?_ | refine wp_op (o := .pick _ _ _) rfl ?_ | refine wp_op (o := .extract _ _) rfl ?_)
      refine wp_ret ⟨by simp, ?_⟩
      show wp EM _ _ _
      refine wp_bind (wp_loop (wpL_for l.length (fun i vs S1 => vs = [I (i : Int), I (allN l a b i)] ∧ Cx S [] S1 [] [.sl v 4 (tks l)]) ?_ ?_ ⟨rfl, H.dropRo (by simp)⟩))
      · rintro i vs S9 hlt ⟨rfl, H⟩
        refine wp_len H (by repeat (first | exact List.Mem.head _ | apply List.Mem.tail)) ?_
        rw [tks_len]
        refine wp_lss_t (by omega) ?_
        repeat (first | refine wp_gop_t ?_ | refine wp_gop_f rfl ?_ | refine wp_gop_u ?_ | refine wp_gcall_t ?_ | refine wp_gcall_f rfl ?_ | refine wp_gcall_u ?_ | refine wp_ite_t ?_ | refine wp_ite_f ?_ | refine wp_faddr ?_ | refine wp_nilchk ?_ | refine wp_op (o := .mv _) rfl ?_ | refine wp_op (o := .pick _ _ _) rfl ?_ | refine wp_op (o := .extract _ _) rfl ?_)
        refine wp_bind ?_
        refine wp_saddr (i := i) H (by repeat (first | exact List.Mem.head _ | apply List.Mem.tail)) (tks_get hlt) fun p off H => ?_
        refine wp_loada H (cs := l[i].cs) (by repeat (first | exact List.Mem.head _ | apply List.Mem.tail)) (Nat.le_of_ble_eq_true rfl) ?_
        refine wp_callV H count_ok fun S10 H => ?_
        have h1 := allN_bd l a b i
        have h2 := count_bd l[i] a b
        refine wp_add64 (by omega) (by omega) ?_
        refine wp_ret ?_
        show wp EM _ _ _
        refine wp_add64 (by omega) (by omega) (wp_ret (.inl ⟨rfl, ?_, H.tl⟩))
        rw [allN_succ hlt]; rfl
      · rintro vs S9 ⟨rfl, H⟩
        refine wp_len H (by repeat (first | exact List.Mem.head _ | apply List.Mem.tail)) ?_
        rw [tks_len]
        refine wp_lss_f (by omega) ?_
        repeat (first | refine wp_gop_t ?_ | refine wp_gop_f rfl ?_ | refine wp_gop_u ?_ | refine wp_gcall_t ?_ | refine wp_gcall_f rfl ?_ | refine wp_gcall_u ?_ | refine wp_ite_t ?_ | refine wp_ite_f ?_ | refine wp_faddr ?_ | refine wp_nilchk ?_ | refine wp_op (o := .mv _) rfl ?_ | refine wp_op (o := .pick _ _ _) rfl ?_ | refine wp_op (o := .extract _ _) rfl ?_)
        refine wp_ret ⟨by simp, ?_⟩
        show wp EM _ _ _
        repeat (first | refine wp_gop_t ?_ | refine wp_gop_f rfl ?_ | refine wp_gop_u ?_ | refine wp_gcall_t ?_ | refine wp_gcall_f rfl ?_ | refine wp_gcall_u ?_ | refine wp_ite_t ?_ | refine wp_ite_f ?_ | refine wp_faddr ?_ | refine wp_nilchk ?_ | refine wp_op (o := .mv _) rfl ?_ | refine wp_op (o := .pick _ _ _) rfl ?_ | refine wp_op (o := .extract _ _) rfl ?_)
        refine wp_callV H (all_ok (H.roSl (by repeat (first | exact List.Mem.head _ | apply List.Mem.tail)))) fun S10 H => ?_
        repeat (first | refine wp_gop_t ?_ | refine wp_gop_f rfl ?_ | refine wp_gop_u ?_ | refine wp_gcall_t ?_ | refine wp_gcall_f rfl ?_ | refine wp_gcall_u ?_ | refine wp_ite_t ?_ | refine wp_ite_f ?_ | refine wp_faddr ?_ | refine wp_nilchk ?_ | refine wp_op (o := .mv _) rfl ?_ | refine wp_op (o := .pick _ _ _) rfl ?_ | refine wp_op (o := .extract _ _) rfl ?_)
        refine wp_eql_t (by unfold all; rw [if_pos he]) ?_
        repeat (first | refine wp_gop_t ?_ | refine wp_gop_f rfl ?_ | refine wp_gop_u ?_ | refine wp_gcall_t ?_ | refine wp_gcall_f rfl ?_ | refine wp_gcall_u ?_ | refine wp_ite_t ?_ | refine wp_ite_f ?_ | refine wp_faddr ?_ | refine wp_nilchk ?_ | refine wp_op (o := .mv _) rfl ?_ | refine wp_op (o := .pick _ _ _) rfl ?_ | refine wp_op (o := .extract _ _) rfl ?_)
        exact wp_ret ⟨rfl, rfl⟩
  have skip : ∀ S5, Cx S [] S5 [] [.pt b0 0 x.cs, .pt p off x.cs, .sl v 4 (tks l)] → wp EM (.gop (B false) true (.load 4 true (.ptr b0 0)) fun v23 => Try.a8x21 [v, I a, I b, I c, I k] (B true) (.ptr b0 0) (B false) v23) S5 fun t vs S' => t = .ret ∧ oneOf vs = B true := by
    intro S5 H
    repeat (first | refine wp_gop_t ?_ | refine wp_gop_f rfl ?_ | refine wp_gop_u ?_ | refine wp_gcall_t ?_ | refine wp_gcall_f rfl ?_ | refine wp_gcall_u ?_ | refine wp_ite_t ?_ | refine wp_ite_f ?_ | refine wp_faddr ?_ | refine wp_nilchk ?_ | refine wp_op (o := .mv _) rfl ?_ | refine wp_op (o := .pick _ _ _) rfl ?_ | refine wp_op (o := .extract _ _) rfl ?_)
    refine wp_gchk_not rfl ?_
    refine wp_gchk_not rfl ?_
    repeat (first | refine wp_gop_t ?_ | refine wp_gop_f rfl ?_ | refine wp_gop_u ?_ | refine wp_gcall_t ?_ | refine wp_gcall_f rfl ?_ | refine wp_gcall_u ?_ | refine wp_ite_t ?_ | refine wp_ite_f ?_ | refine wp_faddr ?_ | refine wp_nilchk ?_ | refine wp_op (o := .mv _) rfl ?_ | refine wp_op (o := .pick _ _ _) rfl ?_ | refine wp_op (o := .extract _ _) rfl ?_)
    refine wp_gchk_not rfl ?_
    repeat (first | refine wp_gop_t ?_ | refine wp_gop_f rfl ?_ | refine wp_gop_u ?_ | refine wp_gcall_t ?_ | refine wp_gcall_f rfl ?_ | refine wp_gcall_u ?_ | refine wp_ite_t ?_ | refine wp_ite_f ?_ | refine wp_faddr ?_ | refine wp_nilchk ?_ | refine wp_op (o := .mv _) rfl ?_ | refine wp_op (o := .pick _ _ _) rfl ?_ | refine wp_op (o := .extract _ _) rfl ?_)
    exact rest S5 H
  refine wp_leq (fun hab => ?_) (fun hab => ?_)
  · repeat (first | refine wp_gop_t ?_ | refine wp_gop_f rfl ?_ | refine wp_gop_u ?_ | refine wp_gcall_t ?_ | refine wp_gcall_f rfl ?_ | refine wp_gcall_u ?_ | refine wp_ite_t ?_ | refine wp_ite_f ?_ | refine wp_faddr ?_ | refine wp_nilchk ?_ | refine wp_op (o := .mv _) rfl ?_ | refine wp_op (o := .pick _ _ _) rfl ?_ | refine wp_op (o := .extract _ _) rfl ?_)
    refine wp_leq (fun hbc => ?_) (fun hbc => ?_)
    · repeat (first | refine wp_gop_t ?_ | refine wp_gop_f rfl ?_ | refine wp_gop_u ?_ | refine wp_gcall_t ?_ | refine wp_gcall_f rfl ?_ | refine wp_gcall_u ?_ | refine wp_ite_t ?_ | refine wp_ite_f ?_ | refine wp_faddr ?_ | refine wp_nilchk ?_ | refine wp_op (o := .mv _) rfl ?_ | refine wp_op (o := .pick _ _ _) rfl ?_ | refine wp_op (o := .extract _ _) rfl ?_)
      refine wp_loada H (cs := x.cs) (by repeat (first | exact List.Mem.head _ | apply List.Mem.tail)) (Nat.le_of_ble_eq_true rfl) ?_
      repeat (first | refine wp_gop_t ?_ | refine wp_gop_f rfl ?_ | refine wp_gop_u ?_ | refine wp_gcall_t ?_ | refine wp_gcall_f rfl ?_ | refine wp_gcall_u ?_ | refine wp_ite_t ?_ | refine wp_ite_f ?_ | refine wp_faddr ?_ | refine wp_nilchk ?_ | refine wp_op (o := .mv _) rfl ?_ | refine wp_op (o := .pick _ _ _) rfl ?_ | refine wp_op (o := .extract _ _) rfl ?_)
      refine wp_loada H (cs := x.cs) (by repeat (first | exact List.Mem.head _ | apply List.Mem.tail)) (Nat.le_of_ble_eq_true rfl) ?_
      repeat (first | refine wp_gop_t ?_ | refine wp_gop_f rfl ?_ | refine wp_gop_u ?_ | refine wp_gcall_t ?_ | refine wp_gcall_f rfl ?_ | refine wp_gcall_u ?_ | refine wp_ite_t ?_ | refine wp_ite_f ?_ | refine wp_faddr ?_ | refine wp_nilchk ?_ | refine wp_op (o := .mv _) rfl ?_ | refine wp_op (o := .pick _ _ _) rfl ?_ | refine wp_op (o := .extract _ _) rfl ?_)
      refine wp_loada H (cs := x.cs) (by repeat (first | exact List.Mem.head _ | apply List.Mem.tail)) (Nat.le_of_ble_eq_true rfl) ?_
      repeat (first | refine wp_gop_t ?_ | refine wp_gop_f rfl ?_ | refine wp_gop_u ?_ | refine wp_gcall_t ?_ | refine wp_gcall_f rfl ?_ | refine wp_gcall_u ?_ | refine wp_ite_t ?_ | refine wp_ite_f ?_ | refine wp_faddr ?_ | refine wp_nilchk ?_ | refine wp_op (o := .mv _) rfl ?_ | refine wp_op (o := .pick _ _ _) rfl ?_ | refine wp_op (o := .extract _ _) rfl ?_)
      refine wp_callV H (count_ok (x := x)) fun S5 H => ?_
      refine wp_gchk_t (wp_chkn (j := 0) (cs := x.cs) H (by repeat (first | exact List.Mem.head _ | apply List.Mem.tail)) (Nat.le_of_ble_eq_true rfl) rfl tk_beq ?_)
      refine wp_gchk_t (wp_chkn (j := 0) (cs := x.cs) H (by repeat (first | exact List.Mem.head _ | apply List.Mem.tail)) (Nat.le_of_ble_eq_true rfl) rfl tk_beq ?_)
      repeat (first | refine wp_gop_t ?_ | refine wp_gop_f rfl ?_ | refine wp_gop_u ?_ | refine wp_gcall_t ?_ | refine wp_gcall_f rfl ?_ | refine wp_gcall_u ?_ | refine wp_ite_t ?_ | refine wp_ite_f ?_ | refine wp_faddr ?_ | refine wp_nilchk ?_ | refine wp_op (o := .mv _) rfl ?_ | refine wp_op (o := .pick _ _ _) rfl ?_ | refine wp_op (o := .extract _ _) rfl ?_)
      refine wp_callV H (count_ok (x := x)) fun S6 H => ?_
      refine wp_gchk_t (wp_chkn (j := 0) (cs := x.cs) H (by repeat (first | exact List.Mem.head _ | apply List.Mem.tail)) (Nat.le_of_ble_eq_true rfl) rfl tk_beq ?_)
      have c1 := count_bd x a b
      have c2 := count_bd x b c
      repeat (first | refine wp_gop_t ?_ | refine wp_gop_f rfl ?_ | refine wp_gop_u ?_ | refine wp_gcall_t ?_ | refine wp_gcall_f rfl ?_ | refine wp_gcall_u ?_ | refine wp_ite_t ?_ | refine wp_ite_f ?_ | refine wp_faddr ?_ | refine wp_nilchk ?_ | refine wp_op (o := .mv _) rfl ?_ | refine wp_op (o := .pick _ _ _) rfl ?_ | refine wp_op (o := .extract _ _) rfl ?_)
      refine wp_add64 (by omega) (by omega) ?_
      repeat (first | refine wp_gop_t ?_ | refine wp_gop_f rfl ?_ | refine wp_gop_u ?_ | refine wp_gcall_t ?_ | refine wp_gcall_f rfl ?_ | refine wp_gcall_u ?_ | refine wp_ite_t ?_ | refine wp_ite_f ?_ | refine wp_faddr ?_ | refine wp_nilchk ?_ | refine wp_op (o := .mv _) rfl ?_ | refine wp_op (o := .pick _ _ _) rfl ?_ | refine wp_op (o := .extract _ _) rfl ?_)
      refine wp_callV H (count_ok (x := x)) fun S7 H => ?_
      repeat (first | refine wp_gop_t ?_ | refine wp_gop_f rfl ?_ | refine wp_gop_u ?_ | refine wp_gcall_t ?_ | refine wp_gcall_f rfl ?_ | refine wp_gcall_u ?_ | refine wp_ite_t ?_ | refine wp_ite_f ?_ | refine wp_faddr ?_ | refine wp_nilchk ?_ | refine wp_op (o := .mv _) rfl ?_ | refine wp_op (o := .pick _ _ _) rfl ?_ | refine wp_op (o := .extract _ _) rfl ?_)
      refine wp_neq_f (count_add hab hbc) ?_
      repeat (first | refine wp_gop_t ?_ | refine wp_gop_f rfl ?_ | refine wp_gop_u ?_ | refine wp_gcall_t ?_ | refine wp_gcall_f rfl ?_ | refine wp_gcall_u ?_ | refine wp_ite_t ?_ | refine wp_ite_f ?_ | refine wp_faddr ?_ | refine wp_nilchk ?_ | refine wp_op (o := .mv _) rfl ?_ | refine wp_op (o := .pick _ _ _) rfl ?_ | refine wp_op (o := .extract _ _) rfl ?_)
      refine wp_callV H (all_ok (H.roSl (by repeat (first | exact List.Mem.head _ | apply List.Mem.tail)))) fun S8 H => ?_
      repeat (first | refine wp_gop_t ?_ | refine wp_gop_f rfl ?_ | refine wp_gop_u ?_ | refine wp_gcall_t ?_ | refine wp_gcall_f rfl ?_ | refine wp_gcall_u ?_ | refine wp_ite_t ?_ | refine wp_ite_f ?_ | refine wp_faddr ?_ | refine wp_nilchk ?_ | refine wp_op (o := .mv _) rfl ?_ | refine wp_op (o := .pick _ _ _) rfl ?_ | refine wp_op (o := .extract _ _) rfl ?_)
      refine wp_callV H (all_ok (H.roSl (by repeat (first | exact List.Mem.head _ | apply List.Mem.tail)))) fun S9 H => ?_
      have a1 := allN_bd l a b l.length
      have a2 := allN_bd l b c l.length
      have a3 := allN_add (l := l) hab hbc l.length
      unfold all
      rw [if_pos he, if_pos he]
      repeat (first | refine wp_gop_t ?_ | refine wp_gop_f rfl ?_ | refine wp_gop_u ?_ | refine wp_gcall_t ?_ | refine wp_gcall_f rfl ?_ | refine wp_gcall_u ?_ | refine wp_ite_t ?_ | refine wp_ite_f ?_ | refine wp_faddr ?_ | refine wp_nilchk ?_ | refine wp_op (o := .mv _) rfl ?_ | refine wp_op (o := .pick _ _ _) rfl ?_ | refine wp_op (o := .extract _ _) rfl ?_)
      refine wp_add64 (by omega) (by omega) ?_
      repeat (first | refine wp_gop_t ?_ | refine wp_gop_f rfl ?_ | refine wp_gop_u ?_ | refine wp_gcall_t ?_ | refine wp_gcall_f rfl ?_ | refine wp_gcall_u ?_ | refine wp_ite_t ?_ | refine wp_ite_f ?_ | refine wp_faddr ?_ | refine wp_nilchk ?_ | refine wp_op (o := .mv _) rfl ?_ | refine wp_op (o := .pick _ _ _) rfl ?_ | refine wp_op (o := .extract _ _) rfl ?_)
      refine wp_callV H (all_ok (H.roSl (by repeat (first | exact List.Mem.head _ | apply List.Mem.tail)))) fun S10 H => ?_
      unfold all
      rw [if_pos he]
      repeat (first | refine wp_gop_t ?_ | refine wp_gop_f rfl ?_ | refine wp_gop_u ?_ | refine wp_gcall_t ?_ | refine wp_gcall_f rfl ?_ | refine wp_gcall_u ?_ | refine wp_ite_t ?_ | refine wp_ite_f ?_ | refine wp_faddr ?_ | refine wp_nilchk ?_ | refine wp_op (o := .mv _) rfl ?_ | refine wp_op (o := .pick _ _ _) rfl ?_ | refine wp_op (o := .extract _ _) rfl ?_)
      refine wp_neq_f a3 ?_
      repeat (first | refine wp_gop_t ?_ | refine wp_gop_f rfl ?_ | refine wp_gop_u ?_ | refine wp_gcall_t ?_ | refine wp_gcall_f rfl ?_ | refine wp_gcall_u ?_ | refine wp_ite_t ?_ | refine wp_ite_f ?_ | refine wp_faddr ?_ | refine wp_nilchk ?_ | refine wp_op (o := .mv _) rfl ?_ | refine wp_op (o := .pick _ _ _) rfl ?_ | refine wp_op (o := .extract _ _) rfl ?_)
      exact rest S10 H
    · repeat (first | refine wp_gop_t ?_ | refine wp_gop_f rfl ?_ | refine wp_gop_u ?_ | refine wp_gcall_t ?_ | refine wp_gcall_f rfl ?_ | refine wp_gcall_u ?_ | refine wp_ite_t ?_ | refine wp_ite_f ?_ | refine wp_faddr ?_ | refine wp_nilchk ?_ | refine wp_op (o := .mv _) rfl ?_ | refine wp_op (o := .pick _ _ _) rfl ?_ | refine wp_op (o := .extract _ _) rfl ?_)
      exact skip S4 H
  · repeat (first | refine wp_gop_t ?_ | refine wp_gop_f rfl ?_ | refine wp_gop_u ?_ | refine wp_gcall_t ?_ | refine wp_gcall_f rfl ?_ | refine wp_gcall_u ?_ | refine wp_ite_t ?_ | refine wp_ite_f ?_ | refine wp_faddr ?_ | refine wp_nilchk ?_ | refine wp_op (o := .mv _) rfl ?_ | refine wp_op (o := .pick _ _ _) rfl ?_ | refine wp_op (o := .extract _ _) rfl ?_)
    exact skip S4 H
end Go.Abs
