/- functions of this cut: what they compute, in the abstract machine. Conditions: stated in each theorem -/
import Derived.Test.YtjcfblbdljjhjaaE0
set_option linter.unusedVariables false
set_option linter.unusedSimpArgs false
namespace Go.Abs
open Go.Proofs
set_option maxRecDepth 100000
def nextIs (x : Tk) (now want : Int) : Bool := decide (timed x = true ∧ since x.first x.every now < many x.first x.every ∧ x.first + since x.first x.every now * x.every = want)
theorem nextIs_ok {S : AH} {x : Tk} {now want : Int} : wpC EM (.fn (.func 38) [] []) [.agg x.cs, I now, I want] S fun r S' => r = B (nextIs x now want) ∧ Grows S S' := by
  refine wpC_fn (b := Try.a38) rfl rfl ?_
  have H : Cx S [] S [] [] := Cx.enter (by simp)
  unfold Try.a38
  refine wp_box H rfl fun b S1 H => ?_
  refine wp_loada H (cs := x.cs) (by repeat (first | exact List.Mem.head _ | apply List.Mem.tail)) (Nat.le_of_ble_eq_true rfl) ?_
  refine wp_callV H next_ok fun S2 H => ?_
  unfold tnext nextIs
  by_cases hs : timed x = true ∧ since x.first x.every now < many x.first x.every
  · rw [if_pos hs]
    repeat (first | refine wp_gop_t ?_ | refine wp_gop_f rfl ?_ | refine wp_gop_u ?_ | refine wp_gcall_t ?_ | refine wp_gcall_f rfl ?_ | refine wp_gcall_u ?_ | refine wp_ite_t ?_ | refine wp_ite_f ?_ | refine wp_faddr ?_ | refine wp_nilchk ?_ | refine wp_op (o := .mv _) rfl ?_ | refine wp_op (o := .pick _ _ _) rfl ?_ | refine wp_op (o := .extract _ _) rfl ?_)
    refine wp_eql (fun h => ?_) (fun h => ?_)
    · repeat (first | refine wp_gop_t ?_ | refine wp_gop_f rfl ?_ | refine wp_gop_u ?_ | refine wp_gcall_t ?_ | refine wp_gcall_f rfl ?_ | refine wp_gcall_u ?_ | refine wp_ite_t ?_ | refine wp_ite_f ?_ | refine wp_faddr ?_ | refine wp_nilchk ?_ | refine wp_op (o := .mv _) rfl ?_ | refine wp_op (o := .pick _ _ _) rfl ?_ | refine wp_op (o := .extract _ _) rfl ?_)
      exact wp_ret ⟨rfl, by rw [decide_eq_true ⟨hs.1, hs.2, h⟩]; rfl, H.grows⟩
    · repeat (first | refine wp_gop_t ?_ | refine wp_gop_f rfl ?_ | refine wp_gop_u ?_ | refine wp_gcall_t ?_ | refine wp_gcall_f rfl ?_ | refine wp_gcall_u ?_ | refine wp_ite_t ?_ | refine wp_ite_f ?_ | refine wp_faddr ?_ | refine wp_nilchk ?_ | refine wp_op (o := .mv _) rfl ?_ | refine wp_op (o := .pick _ _ _) rfl ?_ | refine wp_op (o := .extract _ _) rfl ?_)
      exact wp_ret ⟨rfl, by rw [decide_eq_false (fun k => h k.2.2)]; rfl, H.grows⟩
  · rw [if_neg hs]
    repeat (first | refine wp_gop_t ?_ | refine wp_gop_f rfl ?_ | refine wp_gop_u ?_ | refine wp_gcall_t ?_ | refine wp_gcall_f rfl ?_ | refine wp_gcall_u ?_ | refine wp_ite_t ?_ | refine wp_ite_f ?_ | refine wp_faddr ?_ | refine wp_nilchk ?_ | refine wp_op (o := .mv _) rfl ?_ | refine wp_op (o := .pick _ _ _) rfl ?_ | refine wp_op (o := .extract _ _) rfl ?_)
    exact wp_ret ⟨rfl, by rw [decide_eq_false (fun k => hs ⟨k.1, k.2.1⟩)]; rfl, H.grows⟩
theorem since_time {f e i : Int} (h : TOk f e) (h0 : 0 ≤ i) (h1 : i < many f e) : since f e (f + i * e) = i := by
  have a := time_lt (b := f + i * e) h h0 h1
  by_cases hi : i = 0
  · have := since_bd (now := f + i * e) h
    have : ¬ i < since f e (f + i * e) := fun k => by have := a.2 k; omega
    omega
  · have b := time_lt (b := f + i * e) (i := i - 1) h (by omega) (by omega)
    have e1 : (i - 1) * e = i * e - e := by rw [Int.sub_mul]; omega
    rw [e1] at b
    have := b.1 (by have := h.e0; omega)
    have : ¬ i < since f e (f + i * e) := fun k => by have := a.2 k; omega
    omega
theorem since_first {f e : Int} (h : TOk f e) : since f e 0 = 0 := by unfold since; rw [if_pos h.f0]
theorem since_last {f e : Int} (h : TOk f e) : since f e 1099511627777 = many f e := by unfold since; rw [if_neg (by have := h.f1; omega), if_pos (by omega)]
/-- what a time is by its number -/
theorem apart_at {x : Tk} {n : Int} (ht : timed x = true) (h0 : 0 ≤ n) (h1 : n < many x.first x.every) :
    nextIs x (x.first + n * x.every) (x.first + n * x.every) = true ∧ count x 0 (x.first + n * x.every) = n ∧ (0 < n → nextIs x (x.first + n * x.every - x.every + 1) (x.first + n * x.every) = true) ∧
    (n + 1 < many x.first x.every ↔ x.every ≤ 1099511627776 - (x.first + n * x.every)) := by
  have hT := timed_ok ht
  have hs := since_time hT h0 h1
  have hbd := time_bd hT h0 h1
  have hf := hT.f0
  have he := hT.e0
  refine ⟨?_, ?_, ?_, ?_⟩
  · unfold nextIs; rw [hs]; exact decide_eq_true ⟨ht, h1, rfl⟩
  · unfold count
    by_cases hp : 0 < x.first + n * x.every
    · rw [if_pos ⟨ht, hp⟩, hs, since_first hT]; omega
    · rw [if_neg (fun k => hp k.2)]
      by_cases hn : n = 0
      · omega
      · have : 1 * x.every ≤ n * x.every := Int.mul_le_mul_of_nonneg_right (by omega) (by omega)
        omega
  · intro hn
    have a := time_lt (b := x.first + n * x.every - x.every + 1) hT h0 h1
    have b := time_lt (b := x.first + n * x.every - x.every + 1) (i := n - 1) hT (by omega) (by omega)
    have e1 : (n - 1) * x.every = n * x.every - x.every := by rw [Int.sub_mul]; omega
    rw [e1] at b
    have h2 := b.1 (by omega)
    have h3 : ¬ n < since x.first x.every (x.first + n * x.every - x.every + 1) := fun k => by have := a.2 k; omega
    have e2 : since x.first x.every (x.first + n * x.every - x.every + 1) = n := by omega
    unfold nextIs
    rw [e2]
    exact decide_eq_true ⟨ht, h1, rfl⟩
  · unfold many
    have key : n + 1 ≤ (1099511627776 - x.first) / x.every ↔ (n + 1) * x.every ≤ 1099511627776 - x.first := Int.le_ediv_iff_mul_le (by omega)
    have e1 : (n + 1) * x.every = n * x.every + x.every := by rw [Int.add_mul]; omega
    rw [e1] at key
    constructor
    · intro h; have := key.1 (by omega); omega
    · intro h; have := key.2 (by omega); omega
theorem apart_next {x : Tk} {now : Int} (ht : timed x = true) (h : since x.first x.every now < many x.first x.every) :
    now ≤ x.first + since x.first x.every now * x.every ∧ count x now (x.first + since x.first x.every now * x.every) = 0 ∧ count x (x.first + since x.first x.every now * x.every) (x.first + since x.first x.every now * x.every + 1) = 1 := by
  have hT := timed_ok ht
  have h0 := (since_bd (now := now) hT).1
  have a := time_lt (b := now) hT h0 h
  have hs := since_time hT h0 h
  have he := hT.e0
  generalize hsn : since x.first x.every now = s at *
  refine ⟨?_, ?_, ?_⟩
  · have : ¬ x.first + s * x.every < now := fun k => by have := a.1 k; omega
    omega
  · unfold count
    split
    · rw [hs, hsn]; omega
    · rfl
  · unfold count
    rw [if_pos ⟨ht, by omega⟩, hs]
    have b := time_lt (b := x.first + s * x.every + 1) hT h0 h
    have h2 := b.1 (by omega)
    have h3 : since x.first x.every (x.first + s * x.every + 1) ≤ s + 1 := by
      by_cases hm : s + 1 < many x.first x.every
      · have c := time_lt (b := x.first + s * x.every + 1) (i := s + 1) hT (by omega) hm
        have e1 : (s + 1) * x.every = s * x.every + x.every := by rw [Int.add_mul]; omega
        rw [e1] at c
        have : ¬ s + 1 < since x.first x.every (x.first + s * x.every + 1) := fun k => by have := c.2 k; omega
        omega
      · have := since_bd (now := x.first + s * x.every + 1) hT
        omega
    omega
theorem apart_none {x : Tk} {now : Int} (h : ¬ (timed x = true ∧ since x.first x.every now < many x.first x.every)) : count x now 1099511627777 = 0 := by
  unfold count
  split
  · rename_i k
    have hT := timed_ok k.1
    have := since_bd (now := now) hT
    rw [since_last hT]
    have : ¬ since x.first x.every now < many x.first x.every := fun k2 => h ⟨k.1, k2⟩
    omega
  · rfl
theorem taskApart_ok {S : AH} {x : Tk} {now n : Int} : wpC EM (.fn (.func 7) [] []) [.agg x.cs, I now, I n] S fun r _ => r = B true := by
  refine wpC_fn (b := Try.a7) rfl rfl ?_
  have H : Cx S [] S [] [] := Cx.enter (by simp)
  unfold Try.a7
  refine wp_box H rfl fun b1 S1 H => ?_
  replace H : Cx S [] S1 [] [.pt b1 0 x.cs] := H
  refine known_ok ?_
  refine wp_loada H (cs := x.cs) (by repeat (first | exact List.Mem.head _ | apply List.Mem.tail)) (Nat.le_of_ble_eq_true rfl) ?_
  refine wp_callV H at_ok fun S2 H => ?_
  -- behind the first part
  have rest : ∀ (S3 : AH) (u : AV), Cx S [] S3 [] [.pt b1 0 x.cs] → wp EM (.op (.load 4 true (.ptr b1 0)) fun v8 => .call (.fn (.func 17) [] []) [v8, I now] fun v9 => .op (.extract 0 v9) fun v10 => Try.a7x13 [.agg x.cs, I now, I n] (.ptr b1 0) (B true) v9 v10) S3 fun t vs S' => t = .ret ∧ oneOf vs = B true := by
    intro S3 u H
    refine wp_loada H (cs := x.cs) (by repeat (first | exact List.Mem.head _ | apply List.Mem.tail)) (Nat.le_of_ble_eq_true rfl) ?_
    refine wp_callV H next_ok fun S4 H => ?_
    unfold tnext
    by_cases hs : timed x = true ∧ since x.first x.every now < many x.first x.every
    · rw [if_pos hs]
      obtain ⟨q1, q2, q3⟩ := apart_next hs.1 hs.2
      have hT := timed_ok hs.1
      have hbd := time_bd hT (since_bd (now := now) hT).1 hs.2
      have hf0 := hT.f0
      have hf1 := hT.f1
      repeat (first | refine wp_gop_t ?_ | refine wp_gop_f rfl ?_ | refine wp_gop_u ?_ | refine wp_gcall_t ?_ | refine wp_gcall_f rfl ?_ | refine wp_gcall_u ?_ | refine wp_ite_t ?_ | refine wp_ite_f ?_ | refine wp_faddr ?_ | refine wp_nilchk ?_ | refine wp_op (o := .mv _) rfl ?_ | refine wp_op (o := .pick _ _ _) rfl ?_ | refine wp_op (o := .extract _ _) rfl ?_)
      refine wp_not ?_
      repeat (first | refine wp_gop_t ?_ | refine wp_gop_f rfl ?_ | refine wp_gop_u ?_ | refine wp_gcall_t ?_ | refine wp_gcall_f rfl ?_ | refine wp_gcall_u ?_ | refine wp_ite_t ?_ | refine wp_ite_f ?_ | refine wp_faddr ?_ | refine wp_nilchk ?_ | refine wp_op (o := .mv _) rfl ?_ | refine wp_op (o := .pick _ _ _) rfl ?_ | refine wp_op (o := .extract _ _) rfl ?_)
      refine wp_geq_t q1 ?_
      repeat (first | refine wp_gop_t ?_ | refine wp_gop_f rfl ?_ | refine wp_gop_u ?_ | refine wp_gcall_t ?_ | refine wp_gcall_f rfl ?_ | refine wp_gcall_u ?_ | refine wp_ite_t ?_ | refine wp_ite_f ?_ | refine wp_faddr ?_ | refine wp_nilchk ?_ | refine wp_op (o := .mv _) rfl ?_ | refine wp_op (o := .pick _ _ _) rfl ?_ | refine wp_op (o := .extract _ _) rfl ?_)
      refine wp_loada H (cs := x.cs) (by repeat (first | exact List.Mem.head _ | apply List.Mem.tail)) (Nat.le_of_ble_eq_true rfl) ?_
      repeat (first | refine wp_gop_t ?_ | refine wp_gop_f rfl ?_ | refine wp_gop_u ?_ | refine wp_gcall_t ?_ | refine wp_gcall_f rfl ?_ | refine wp_gcall_u ?_ | refine wp_ite_t ?_ | refine wp_ite_f ?_ | refine wp_faddr ?_ | refine wp_nilchk ?_ | refine wp_op (o := .mv _) rfl ?_ | refine wp_op (o := .pick _ _ _) rfl ?_ | refine wp_op (o := .extract _ _) rfl ?_)
      refine wp_callV H count_ok fun S5 H => ?_
      repeat (first | refine wp_gop_t ?_ | refine wp_gop_f rfl ?_ | refine wp_gop_u ?_ | refine wp_gcall_t ?_ | refine wp_gcall_f rfl ?_ | refine wp_gcall_u ?_ | refine wp_ite_t ?_ | refine wp_ite_f ?_ | refine wp_faddr ?_ | refine wp_nilchk ?_ | refine wp_op (o := .mv _) rfl ?_ | refine wp_op (o := .pick _ _ _) rfl ?_ | refine wp_op (o := .extract _ _) rfl ?_)
      refine wp_eql_t q2 ?_
      repeat (first | refine wp_gop_t ?_ | refine wp_gop_f rfl ?_ | refine wp_gop_u ?_ | refine wp_gcall_t ?_ | refine wp_gcall_f rfl ?_ | refine wp_gcall_u ?_ | refine wp_ite_t ?_ | refine wp_ite_f ?_ | refine wp_faddr ?_ | refine wp_nilchk ?_ | refine wp_op (o := .mv _) rfl ?_ | refine wp_op (o := .pick _ _ _) rfl ?_ | refine wp_op (o := .extract _ _) rfl ?_)
      refine wp_loada H (cs := x.cs) (by repeat (first | exact List.Mem.head _ | apply List.Mem.tail)) (Nat.le_of_ble_eq_true rfl) ?_
      repeat (first | refine wp_gop_t ?_ | refine wp_gop_f rfl ?_ | refine wp_gop_u ?_ | refine wp_gcall_t ?_ | refine wp_gcall_f rfl ?_ | refine wp_gcall_u ?_ | refine wp_ite_t ?_ | refine wp_ite_f ?_ | refine wp_faddr ?_ | refine wp_nilchk ?_ | refine wp_op (o := .mv _) rfl ?_ | refine wp_op (o := .pick _ _ _) rfl ?_ | refine wp_op (o := .extract _ _) rfl ?_)
      refine wp_add64 (by omega) (by omega) ?_
      repeat (first | refine wp_gop_t ?_ | refine wp_gop_f rfl ?_ | refine wp_gop_u ?_ | refine wp_gcall_t ?_ | refine wp_gcall_f rfl ?_ | refine wp_gcall_u ?_ | refine wp_ite_t ?_ | refine wp_ite_f ?_ | refine wp_faddr ?_ | refine wp_nilchk ?_ | refine wp_op (o := .mv _) rfl ?_ | refine wp_op (o := .pick _ _ _) rfl ?_ | refine wp_op (o := .extract _ _) rfl ?_)
      refine wp_callV H count_ok fun S6 H => ?_
      repeat (first | refine wp_gop_t ?_ | refine wp_gop_f rfl ?_ | refine wp_gop_u ?_ | refine wp_gcall_t ?_ | refine wp_gcall_f rfl ?_ | refine wp_gcall_u ?_ | refine wp_ite_t ?_ | refine wp_ite_f ?_ | refine wp_faddr ?_ | refine wp_nilchk ?_ | refine wp_op (o := .mv _) rfl ?_ | refine wp_op (o := .pick _ _ _) rfl ?_ | refine wp_op (o := .extract _ _) rfl ?_)
      refine wp_eql_t q3 ?_
      repeat (first | refine wp_gop_t ?_ | refine wp_gop_f rfl ?_ | refine wp_gop_u ?_ | refine wp_gcall_t ?_ | refine wp_gcall_f rfl ?_ | refine wp_gcall_u ?_ | refine wp_ite_t ?_ | refine wp_ite_f ?_ | refine wp_faddr ?_ | refine wp_nilchk ?_ | refine wp_op (o := .mv _) rfl ?_ | refine wp_op (o := .pick _ _ _) rfl ?_ | refine wp_op (o := .extract _ _) rfl ?_)
      exact wp_ret ⟨rfl, rfl⟩
    · rw [if_neg hs]
      repeat (first | refine wp_gop_t ?_ | refine wp_gop_f rfl ?_ | refine wp_gop_u ?_ | refine wp_gcall_t ?_ | refine wp_gcall_f rfl ?_ | refine wp_gcall_u ?_ | refine wp_ite_t ?_ | refine wp_ite_f ?_ | refine wp_faddr ?_ | refine wp_nilchk ?_ | refine wp_op (o := .mv _) rfl ?_ | refine wp_op (o := .pick _ _ _) rfl ?_ | refine wp_op (o := .extract _ _) rfl ?_)
      refine wp_not ?_
      repeat (first | refine wp_gop_t ?_ | refine wp_gop_f rfl ?_ | refine wp_gop_u ?_ | refine wp_gcall_t ?_ | refine wp_gcall_f rfl ?_ | refine wp_gcall_u ?_ | refine wp_ite_t ?_ | refine wp_ite_f ?_ | refine wp_faddr ?_ | refine wp_nilchk ?_ | refine wp_op (o := .mv _) rfl ?_ | refine wp_op (o := .pick _ _ _) rfl ?_ | refine wp_op (o := .extract _ _) rfl ?_)
      refine wp_loada H (cs := x.cs) (by repeat (first | exact List.Mem.head _ | apply List.Mem.tail)) (Nat.le_of_ble_eq_true rfl) ?_
      repeat (first | refine wp_gop_t ?_ | refine wp_gop_f rfl ?_ | refine wp_gop_u ?_ | refine wp_gcall_t ?_ | refine wp_gcall_f rfl ?_ | refine wp_gcall_u ?_ | refine wp_ite_t ?_ | refine wp_ite_f ?_ | refine wp_faddr ?_ | refine wp_nilchk ?_ | refine wp_op (o := .mv _) rfl ?_ | refine wp_op (o := .pick _ _ _) rfl ?_ | refine wp_op (o := .extract _ _) rfl ?_)
      refine wp_callV H count_ok fun S5 H => ?_
      repeat (first | refine wp_gop_t ?_ | refine wp_gop_f rfl ?_ | refine wp_gop_u ?_ | refine wp_gcall_t ?_ | refine wp_gcall_f rfl ?_ | refine wp_gcall_u ?_ | refine wp_ite_t ?_ | refine wp_ite_f ?_ | refine wp_faddr ?_ | refine wp_nilchk ?_ | refine wp_op (o := .mv _) rfl ?_ | refine wp_op (o := .pick _ _ _) rfl ?_ | refine wp_op (o := .extract _ _) rfl ?_)
      refine wp_eql_t (apart_none hs) ?_
      repeat (first | refine wp_gop_t ?_ | refine wp_gop_f rfl ?_ | refine wp_gop_u ?_ | refine wp_gcall_t ?_ | refine wp_gcall_f rfl ?_ | refine wp_gcall_u ?_ | refine wp_ite_t ?_ | refine wp_ite_f ?_ | refine wp_faddr ?_ | refine wp_nilchk ?_ | refine wp_op (o := .mv _) rfl ?_ | refine wp_op (o := .pick _ _ _) rfl ?_ | refine wp_op (o := .extract _ _) rfl ?_)
      exact wp_ret ⟨rfl, rfl⟩
  unfold tat
  by_cases hc : timed x = true ∧ 0 ≤ n ∧ n < many x.first x.every
  · rw [if_pos hc]
    obtain ⟨q1, q2, q3, q4⟩ := apart_at hc.1 hc.2.1 hc.2.2
    have hT := timed_ok hc.1
    have hbd := time_bd hT hc.2.1 hc.2.2
    have hm := many_bd hT
    have hf0 := hT.f0
    have hf1 := hT.f1
    have he0 := hT.e0
    have he1 := hT.e1
    repeat (first | refine wp_gop_t ?_ | refine wp_gop_f rfl ?_ | refine wp_gop_u ?_ | refine wp_gcall_t ?_ | refine wp_gcall_f rfl ?_ | refine wp_gcall_u ?_ | refine wp_ite_t ?_ | refine wp_ite_f ?_ | refine wp_faddr ?_ | refine wp_nilchk ?_ | refine wp_op (o := .mv _) rfl ?_ | refine wp_op (o := .pick _ _ _) rfl ?_ | refine wp_op (o := .extract _ _) rfl ?_)
    refine wp_bind ?_
    repeat (first | refine wp_gop_t ?_ | refine wp_gop_f rfl ?_ | refine wp_gop_u ?_ | refine wp_gcall_t ?_ | refine wp_gcall_f rfl ?_ | refine wp_gcall_u ?_ | refine wp_ite_t ?_ | refine wp_ite_f ?_ | refine wp_faddr ?_ | refine wp_nilchk ?_ | refine wp_op (o := .mv _) rfl ?_ | refine wp_op (o := .pick _ _ _) rfl ?_ | refine wp_op (o := .extract _ _) rfl ?_)
    refine wp_lss_f (by omega) ?_
    repeat (first | refine wp_gop_t ?_ | refine wp_gop_f rfl ?_ | refine wp_gop_u ?_ | refine wp_gcall_t ?_ | refine wp_gcall_f rfl ?_ | refine wp_gcall_u ?_ | refine wp_ite_t ?_ | refine wp_ite_f ?_ | refine wp_faddr ?_ | refine wp_nilchk ?_ | refine wp_op (o := .mv _) rfl ?_ | refine wp_op (o := .pick _ _ _) rfl ?_ | refine wp_op (o := .extract _ _) rfl ?_)
    refine wp_gtr_f (by omega) ?_
    repeat (first | refine wp_gop_t ?_ | refine wp_gop_f rfl ?_ | refine wp_gop_u ?_ | refine wp_gcall_t ?_ | refine wp_gcall_f rfl ?_ | refine wp_gcall_u ?_ | refine wp_ite_t ?_ | refine wp_ite_f ?_ | refine wp_faddr ?_ | refine wp_nilchk ?_ | refine wp_op (o := .mv _) rfl ?_ | refine wp_op (o := .pick _ _ _) rfl ?_ | refine wp_op (o := .extract _ _) rfl ?_)
    refine wp_loada H (cs := x.cs) (by repeat (first | exact List.Mem.head _ | apply List.Mem.tail)) (Nat.le_of_ble_eq_true rfl) ?_
    repeat (first | refine wp_gop_t ?_ | refine wp_gop_f rfl ?_ | refine wp_gop_u ?_ | refine wp_gcall_t ?_ | refine wp_gcall_f rfl ?_ | refine wp_gcall_u ?_ | refine wp_ite_t ?_ | refine wp_ite_f ?_ | refine wp_faddr ?_ | refine wp_nilchk ?_ | refine wp_op (o := .mv _) rfl ?_ | refine wp_op (o := .pick _ _ _) rfl ?_ | refine wp_op (o := .extract _ _) rfl ?_)
    refine wp_callV H nextIs_ok fun S3 H => ?_
    rw [q1]
    repeat (first | refine wp_gop_t ?_ | refine wp_gop_f rfl ?_ | refine wp_gop_u ?_ | refine wp_gcall_t ?_ | refine wp_gcall_f rfl ?_ | refine wp_gcall_u ?_ | refine wp_ite_t ?_ | refine wp_ite_f ?_ | refine wp_faddr ?_ | refine wp_nilchk ?_ | refine wp_op (o := .mv _) rfl ?_ | refine wp_op (o := .pick _ _ _) rfl ?_ | refine wp_op (o := .extract _ _) rfl ?_)
    refine wp_not ?_
    repeat (first | refine wp_gop_t ?_ | refine wp_gop_f rfl ?_ | refine wp_gop_u ?_ | refine wp_gcall_t ?_ | refine wp_gcall_f rfl ?_ | refine wp_gcall_u ?_ | refine wp_ite_t ?_ | refine wp_ite_f ?_ | refine wp_faddr ?_ | refine wp_nilchk ?_ | refine wp_op (o := .mv _) rfl ?_ | refine wp_op (o := .pick _ _ _) rfl ?_ | refine wp_op (o := .extract _ _) rfl ?_)
    refine wp_loada H (cs := x.cs) (by repeat (first | exact List.Mem.head _ | apply List.Mem.tail)) (Nat.le_of_ble_eq_true rfl) ?_
    repeat (first | refine wp_gop_t ?_ | refine wp_gop_f rfl ?_ | refine wp_gop_u ?_ | refine wp_gcall_t ?_ | refine wp_gcall_f rfl ?_ | refine wp_gcall_u ?_ | refine wp_ite_t ?_ | refine wp_ite_f ?_ | refine wp_faddr ?_ | refine wp_nilchk ?_ | refine wp_op (o := .mv _) rfl ?_ | refine wp_op (o := .pick _ _ _) rfl ?_ | refine wp_op (o := .extract _ _) rfl ?_)
    refine wp_callV H count_ok fun S4 H => ?_
    repeat (first | refine wp_gop_t ?_ | refine wp_gop_f rfl ?_ | refine wp_gop_u ?_ | refine wp_gcall_t ?_ | refine wp_gcall_f rfl ?_ | refine wp_gcall_u ?_ | refine wp_ite_t ?_ | refine wp_ite_f ?_ | refine wp_faddr ?_ | refine wp_nilchk ?_ | refine wp_op (o := .mv _) rfl ?_ | refine wp_op (o := .pick _ _ _) rfl ?_ | refine wp_op (o := .extract _ _) rfl ?_)
    refine wp_neq_f q2 ?_
    repeat (first | refine wp_gop_t ?_ | refine wp_gop_f rfl ?_ | refine wp_gop_u ?_ | refine wp_gcall_t ?_ | refine wp_gcall_f rfl ?_ | refine wp_gcall_u ?_ | refine wp_ite_t ?_ | refine wp_ite_f ?_ | refine wp_faddr ?_ | refine wp_nilchk ?_ | refine wp_op (o := .mv _) rfl ?_ | refine wp_op (o := .pick _ _ _) rfl ?_ | refine wp_op (o := .extract _ _) rfl ?_)
    have tail : ∀ S5, Cx S [] S5 [] [.pt b1 0 x.cs] → wp EM (Try.a7x3 [.agg x.cs, I now, I n] (.ptr b1 0) (I (x.first + n * x.every))) S5 (boundTo EM none (fun v7 => .op (.load 4 true (.ptr b1 0)) fun v8 => .call (.fn (.func 17) [] []) [v8, I now] fun v9 => .op (.extract 0 v9) fun v10 => Try.a7x13 [.agg x.cs, I now, I n] (.ptr b1 0) (B true) v9 v10) (fun v7 => [(nth v7 0)]) fun t vs S' => t = .ret ∧ oneOf vs = B true) := by
      intro S5 H
      unfold Try.a7x3
      refine wp_loada H (cs := x.cs) (by repeat (first | exact List.Mem.head _ | apply List.Mem.tail)) (Nat.le_of_ble_eq_true rfl) ?_
      refine wp_add64 (by omega) (by omega) ?_
      refine wp_callV H at_ok fun S6 H => ?_
      unfold tat
      by_cases hm1 : n + 1 < many x.first x.every
      · rw [if_pos ⟨hc.1, by omega, hm1⟩]
        have hle := q4.1 hm1
        repeat (first | refine wp_gop_t ?_ | refine wp_gop_f rfl ?_ | refine wp_gop_u ?_ | refine wp_gcall_t ?_ | refine wp_gcall_f rfl ?_ | refine wp_gcall_u ?_ | refine wp_ite_t ?_ | refine wp_ite_f ?_ | refine wp_faddr ?_ | refine wp_nilchk ?_ | refine wp_op (o := .mv _) rfl ?_ | refine wp_op (o := .pick _ _ _) rfl ?_ | refine wp_op (o := .extract _ _) rfl ?_)
        refine wp_load1 H (cs := x.cs) (by repeat (first | exact List.Mem.head _ | apply List.Mem.tail)) rfl ?_
        refine wp_sub64 (by omega) (by omega) ?_
        refine wp_leq_t (by omega) ?_
        refine wp_op (e_eqb und4) ?_
        repeat (first | refine wp_gop_t ?_ | refine wp_gop_f rfl ?_ | refine wp_gop_u ?_ | refine wp_gcall_t ?_ | refine wp_gcall_f rfl ?_ | refine wp_gcall_u ?_ | refine wp_ite_t ?_ | refine wp_ite_f ?_ | refine wp_faddr ?_ | refine wp_nilchk ?_ | refine wp_op (o := .mv _) rfl ?_ | refine wp_op (o := .pick _ _ _) rfl ?_ | refine wp_op (o := .extract _ _) rfl ?_)
        refine wp_load1 H (cs := x.cs) (by repeat (first | exact List.Mem.head _ | apply List.Mem.tail)) rfl ?_
        repeat (first | refine wp_gop_t ?_ | refine wp_gop_f rfl ?_ | refine wp_gop_u ?_ | refine wp_gcall_t ?_ | refine wp_gcall_f rfl ?_ | refine wp_gcall_u ?_ | refine wp_ite_t ?_ | refine wp_ite_f ?_ | refine wp_faddr ?_ | refine wp_nilchk ?_ | refine wp_op (o := .mv _) rfl ?_ | refine wp_op (o := .pick _ _ _) rfl ?_ | refine wp_op (o := .extract _ _) rfl ?_)
        refine wp_add64 (by omega) (by omega) ?_
        repeat (first | refine wp_gop_t ?_ | refine wp_gop_f rfl ?_ | refine wp_gop_u ?_ | refine wp_gcall_t ?_ | refine wp_gcall_f rfl ?_ | refine wp_gcall_u ?_ | refine wp_ite_t ?_ | refine wp_ite_f ?_ | refine wp_faddr ?_ | refine wp_nilchk ?_ | refine wp_op (o := .mv _) rfl ?_ | refine wp_op (o := .pick _ _ _) rfl ?_ | refine wp_op (o := .extract _ _) rfl ?_)
        refine wp_neq_f (by rw [Int.add_mul]; omega) ?_
        repeat (first | refine wp_gop_t ?_ | refine wp_gop_f rfl ?_ | refine wp_gop_u ?_ | refine wp_gcall_t ?_ | refine wp_gcall_f rfl ?_ | refine wp_gcall_u ?_ | refine wp_ite_t ?_ | refine wp_ite_f ?_ | refine wp_faddr ?_ | refine wp_nilchk ?_ | refine wp_op (o := .mv _) rfl ?_ | refine wp_op (o := .pick _ _ _) rfl ?_ | refine wp_op (o := .extract _ _) rfl ?_)
        refine wp_ret ?_
        exact rest S6 Np H
      · rw [if_neg (fun k => hm1 k.2.2)]
        have hgt : ¬ x.every ≤ 1099511627776 - (x.first + n * x.every) := fun k => hm1 (q4.2 k)
        repeat (first | refine wp_gop_t ?_ | refine wp_gop_f rfl ?_ | refine wp_gop_u ?_ | refine wp_gcall_t ?_ | refine wp_gcall_f rfl ?_ | refine wp_gcall_u ?_ | refine wp_ite_t ?_ | refine wp_ite_f ?_ | refine wp_faddr ?_ | refine wp_nilchk ?_ | refine wp_op (o := .mv _) rfl ?_ | refine wp_op (o := .pick _ _ _) rfl ?_ | refine wp_op (o := .extract _ _) rfl ?_)
        refine wp_load1 H (cs := x.cs) (by repeat (first | exact List.Mem.head _ | apply List.Mem.tail)) rfl ?_
        refine wp_sub64 (by omega) (by omega) ?_
        refine wp_leq_f (by omega) ?_
        refine wp_op (e_eqb und4) ?_
        repeat (first | refine wp_gop_t ?_ | refine wp_gop_f rfl ?_ | refine wp_gop_u ?_ | refine wp_gcall_t ?_ | refine wp_gcall_f rfl ?_ | refine wp_gcall_u ?_ | refine wp_ite_t ?_ | refine wp_ite_f ?_ | refine wp_faddr ?_ | refine wp_nilchk ?_ | refine wp_op (o := .mv _) rfl ?_ | refine wp_op (o := .pick _ _ _) rfl ?_ | refine wp_op (o := .extract _ _) rfl ?_)
        refine wp_ret ?_
        exact rest S6 Np H
    refine wp_gtr (fun hn => ?_) (fun hn => ?_)
    · repeat (first | refine wp_gop_t ?_ | refine wp_gop_f rfl ?_ | refine wp_gop_u ?_ | refine wp_gcall_t ?_ | refine wp_gcall_f rfl ?_ | refine wp_gcall_u ?_ | refine wp_ite_t ?_ | refine wp_ite_f ?_ | refine wp_faddr ?_ | refine wp_nilchk ?_ | refine wp_op (o := .mv _) rfl ?_ | refine wp_op (o := .pick _ _ _) rfl ?_ | refine wp_op (o := .extract _ _) rfl ?_)
      refine wp_loada H (cs := x.cs) (by repeat (first | exact List.Mem.head _ | apply List.Mem.tail)) (Nat.le_of_ble_eq_true rfl) ?_
      repeat (first | refine wp_gop_t ?_ | refine wp_gop_f rfl ?_ | refine wp_gop_u ?_ | refine wp_gcall_t ?_ | refine wp_gcall_f rfl ?_ | refine wp_gcall_u ?_ | refine wp_ite_t ?_ | refine wp_ite_f ?_ | refine wp_faddr ?_ | refine wp_nilchk ?_ | refine wp_op (o := .mv _) rfl ?_ | refine wp_op (o := .pick _ _ _) rfl ?_ | refine wp_op (o := .extract _ _) rfl ?_)
      refine wp_load1 H (cs := x.cs) (by repeat (first | exact List.Mem.head _ | apply List.Mem.tail)) rfl ?_
      repeat (first | refine wp_gop_t ?_ | refine wp_gop_f rfl ?_ | refine wp_gop_u ?_ | refine wp_gcall_t ?_ | refine wp_gcall_f rfl ?_ | refine wp_gcall_u ?_ | refine wp_ite_t ?_ | refine wp_ite_f ?_ | refine wp_faddr ?_ | refine wp_nilchk ?_ | refine wp_op (o := .mv _) rfl ?_ | refine wp_op (o := .pick _ _ _) rfl ?_ | refine wp_op (o := .extract _ _) rfl ?_)
      refine wp_sub64 (by omega) (by omega) ?_
      repeat (first | refine wp_gop_t ?_ | refine wp_gop_f rfl ?_ | refine wp_gop_u ?_ | refine wp_gcall_t ?_ | refine wp_gcall_f rfl ?_ | refine wp_gcall_u ?_ | refine wp_ite_t ?_ | refine wp_ite_f ?_ | refine wp_faddr ?_ | refine wp_nilchk ?_ | refine wp_op (o := .mv _) rfl ?_ | refine wp_op (o := .pick _ _ _) rfl ?_ | refine wp_op (o := .extract _ _) rfl ?_)
      refine wp_add64 (by omega) (by omega) ?_
      repeat (first | refine wp_gop_t ?_ | refine wp_gop_f rfl ?_ | refine wp_gop_u ?_ | refine wp_gcall_t ?_ | refine wp_gcall_f rfl ?_ | refine wp_gcall_u ?_ | refine wp_ite_t ?_ | refine wp_ite_f ?_ | refine wp_faddr ?_ | refine wp_nilchk ?_ | refine wp_op (o := .mv _) rfl ?_ | refine wp_op (o := .pick _ _ _) rfl ?_ | refine wp_op (o := .extract _ _) rfl ?_)
      refine wp_callV H nextIs_ok fun S5 H => ?_
      rw [q3 hn]
      repeat (first | refine wp_gop_t ?_ | refine wp_gop_f rfl ?_ | refine wp_gop_u ?_ | refine wp_gcall_t ?_ | refine wp_gcall_f rfl ?_ | refine wp_gcall_u ?_ | refine wp_ite_t ?_ | refine wp_ite_f ?_ | refine wp_faddr ?_ | refine wp_nilchk ?_ | refine wp_op (o := .mv _) rfl ?_ | refine wp_op (o := .pick _ _ _) rfl ?_ | refine wp_op (o := .extract _ _) rfl ?_)
      refine wp_not ?_
      repeat (first | refine wp_gop_t ?_ | refine wp_gop_f rfl ?_ | refine wp_gop_u ?_ | refine wp_gcall_t ?_ | refine wp_gcall_f rfl ?_ | refine wp_gcall_u ?_ | refine wp_ite_t ?_ | refine wp_ite_f ?_ | refine wp_faddr ?_ | refine wp_nilchk ?_ | refine wp_op (o := .mv _) rfl ?_ | refine wp_op (o := .pick _ _ _) rfl ?_ | refine wp_op (o := .extract _ _) rfl ?_)
      exact tail S5 H
    · repeat (first | refine wp_gop_t ?_ | refine wp_gop_f rfl ?_ | refine wp_gop_u ?_ | refine wp_gcall_t ?_ | refine wp_gcall_f rfl ?_ | refine wp_gcall_u ?_ | refine wp_ite_t ?_ | refine wp_ite_f ?_ | refine wp_faddr ?_ | refine wp_nilchk ?_ | refine wp_op (o := .mv _) rfl ?_ | refine wp_op (o := .pick _ _ _) rfl ?_ | refine wp_op (o := .extract _ _) rfl ?_)
      exact tail S4 H
  · rw [if_neg hc]
    repeat (first | refine wp_gop_t ?_ | refine wp_gop_f rfl ?_ | refine wp_gop_u ?_ | refine wp_gcall_t ?_ | refine wp_gcall_f rfl ?_ | refine wp_gcall_u ?_ | refine wp_ite_t ?_ | refine wp_ite_f ?_ | refine wp_faddr ?_ | refine wp_nilchk ?_ | refine wp_op (o := .mv _) rfl ?_ | refine wp_op (o := .pick _ _ _) rfl ?_ | refine wp_op (o := .extract _ _) rfl ?_)
    refine wp_bind ?_
    repeat (first | refine wp_gop_t ?_ | refine wp_gop_f rfl ?_ | refine wp_gop_u ?_ | refine wp_gcall_t ?_ | refine wp_gcall_f rfl ?_ | refine wp_gcall_u ?_ | refine wp_ite_t ?_ | refine wp_ite_f ?_ | refine wp_faddr ?_ | refine wp_nilchk ?_ | refine wp_op (o := .mv _) rfl ?_ | refine wp_op (o := .pick _ _ _) rfl ?_ | refine wp_op (o := .extract _ _) rfl ?_)
    refine wp_ret ?_
    exact rest S2 Np H
end Go.Abs
