/- functions of this cut: what they compute, in the abstract machine. Conditions: stated in each theorem -/
import Derived.Test.YtapphfcflichmaaE0
set_option linter.unusedVariables false
set_option linter.unusedSimpArgs false
namespace Go.Abs.Tsk
open Go.Proofs
set_option maxRecDepth 100000

structure Tk where
  kind : Int
  prio : Int
  every : Int
  first : Int
def Tk.cs (x : Tk) : List AV := [I x.kind, I x.prio, I x.every, I x.first]
def tks (l : List Tk) : List (List AV) := l.map Tk.cs
theorem tks_len (l : List Tk) : (tks l).length = l.length := List.length_map ..
theorem tks_get {l : List Tk} {i : Nat} (hi : i < l.length) : (tks l)[i]? = some (l[i].cs) := by simp [tks, hi]

/-- why a task may not be -/
def tone (x : Tk) : Int := if x.kind ≠ 1 ∧ x.kind ≠ 2 then 5 else
  if x.prio < 0 ∨ 254 < x.prio ∨ x.every < 0 ∨ (x.kind = 1 ∧ x.every < 1) ∨ 1099511627776 < x.every ∨ x.first < 0 ∨ 1099511627776 < x.first ∨ (x.kind = 2 ∧ x.first ≠ 0) then 3 else 0

set_option maxHeartbeats 4000000 in
theorem one_ok {S : AH} {x : Tk} : wpC EM (.fn (.func 131) [] []) [.agg x.cs] S fun r S' => r = I (tone x) ∧ Grows S S' := by
  refine wpC_fn (b := Try.a131) rfl rfl ?_
  have H : Cx S [] S [] [] := Cx.enter (by simp)
  unfold Try.a131
  refine wp_box H rfl fun b S1 H => ?_
  repeat' (first | (first|refine zA ?_|refine zB rfl ?_|refine zC ?_|refine zD ?_|refine zE rfl ?_|refine zF ?_|refine zG ?_|refine zH ?_|refine zI ?_|refine zJ ?_|refine zK ?_|refine zL rfl ?_|refine zN rfl ?_) | refine wp_bind ?_ | refine wp_load1 H (by repeat (first | exact List.Mem.head _ | apply List.Mem.tail)) rfl ?_ | (refine wp_ret ?_; show wp EM _ _ _) | refine wp_lss (fun _ => ?_) (fun _ => ?_) | refine wp_gtr (fun _ => ?_) (fun _ => ?_) | refine wp_leq (fun _ => ?_) (fun _ => ?_) | refine wp_geq (fun _ => ?_) (fun _ => ?_) | refine wp_eql (fun _ => ?_) (fun _ => ?_) | refine wp_neq (fun _ => ?_) (fun _ => ?_))
  all_goals first
    | exact wp_ret ⟨rfl, congrArg I (by unfold tone; split <;> (try split) <;> omega), H.grows⟩
set_option maxHeartbeats 4000000 in
theorem refOne_ok {S : AH} {x : Tk} : wpC EM (.fn (.func 135) [] []) [.agg x.cs] S fun r S' => r = I (tone x) ∧ Grows S S' := by
  refine wpC_fn (b := Try.a135) rfl rfl ?_
  have H : Cx S [] S [] [] := Cx.enter (by simp)
  unfold Try.a135
  refine wp_box H rfl fun b S1 H => ?_
  repeat' (first | (first|refine zA ?_|refine zB rfl ?_|refine zC ?_|refine zD ?_|refine zE rfl ?_|refine zF ?_|refine zG ?_|refine zH ?_|refine zI ?_|refine zJ ?_|refine zK ?_|refine zL rfl ?_|refine zN rfl ?_) | refine wp_bind ?_ | refine wp_load1 H (by repeat (first | exact List.Mem.head _ | apply List.Mem.tail)) rfl ?_ | (refine wp_ret ?_; show wp EM _ _ _) | refine wp_lss (fun _ => ?_) (fun _ => ?_) | refine wp_gtr (fun _ => ?_) (fun _ => ?_) | refine wp_leq (fun _ => ?_) (fun _ => ?_) | refine wp_geq (fun _ => ?_) (fun _ => ?_) | refine wp_eql (fun _ => ?_) (fun _ => ?_) | refine wp_neq (fun _ => ?_) (fun _ => ?_))
  all_goals first
    | exact wp_ret ⟨rfl, congrArg I (by unfold tone; split <;> (try split) <;> omega), H.grows⟩
end Go.Abs.Tsk
namespace Go.Abs.Tsk
open Go.Proofs
set_option maxRecDepth 100000
def tfirst : List Tk → Int
  | [] => 0
  | x :: l => if tone x = 0 then tfirst l else tone x
def tchk (l : List Tk) : Int := if 32 < l.length then 4 else tfirst l
theorem tfirst_drop {l : List Tk} {i : Nat} (hi : i < l.length) : tfirst (l.drop i) = if tone l[i] = 0 then tfirst (l.drop (i + 1)) else tone l[i] := by
  rw [List.drop_eq_getElem_cons hi]; rfl

theorem check_ok {S : AH} {v : AV} {l : List Tk} (hv : RoSl S v 4 (tks l)) : wpC EM (.fn (.func 100) [] []) [v] S fun r S' => r = I (tchk l) ∧ Grows S S' := by
  refine wpC_fn (b := Try.a100) rfl rfl ?_
  have H := Cx.ro1 hv
  unfold Try.a100
  refine wp_len H (by repeat (first | exact List.Mem.head _ | apply List.Mem.tail)) ?_
  rw [tks_len]
  unfold tchk
  refine wp_gtr (fun hlt => ?_) (fun hge => ?_)
  · repeat (first|refine zA ?_|refine zB rfl ?_|refine zC ?_|refine zD ?_|refine zE rfl ?_|refine zF ?_|refine zG ?_|refine zH ?_|refine zI ?_|refine zJ ?_|refine zK ?_|refine zL rfl ?_|refine zN rfl ?_)
    refine wp_ret ⟨rfl, ?_, H.grows⟩
    rw [if_pos (by omega)]; rfl
  · rw [if_neg (by omega)]
    repeat (first|refine zA ?_|refine zB rfl ?_|refine zC ?_|refine zD ?_|refine zE rfl ?_|refine zF ?_|refine zG ?_|refine zH ?_|refine zI ?_|refine zJ ?_|refine zK ?_|refine zL rfl ?_|refine zN rfl ?_)
    refine wp_len H (by repeat (first | exact List.Mem.head _ | apply List.Mem.tail)) ?_
    rw [tks_len]
    refine wp_bind (wp_loop (wpL_for l.length (fun i vs S1 => ∃ u : AV, vs = [I (i : Int), u] ∧ tfirst (l.drop i) = tfirst l ∧ Cx S [] S1 [] [.sl v 4 (tks l)]) ?_ ?_ ⟨_, rfl, rfl, H⟩))
    · rintro i vs S1 hlt ⟨u, rfl, hc, H⟩
      rw [tfirst_drop hlt] at hc
      refine wp_lss_t (by omega) ?_
      repeat (first|refine zA ?_|refine zB rfl ?_|refine zC ?_|refine zD ?_|refine zE rfl ?_|refine zF ?_|refine zG ?_|refine zH ?_|refine zI ?_|refine zJ ?_|refine zK ?_|refine zL rfl ?_|refine zN rfl ?_)
      refine wp_bind ?_
      refine wp_saddr (i := i) H (by repeat (first | exact List.Mem.head _ | apply List.Mem.tail)) (tks_get hlt) fun p off H => ?_
      refine wp_loada H (cs := l[i].cs) (by repeat (first | exact List.Mem.head _ | apply List.Mem.tail)) (Nat.le_of_ble_eq_true rfl) ?_
      refine wp_alloc H fun b S3 H => ?_
      refine wp_store H 0 rfl rfl rfl (Nat.le_of_ble_eq_true rfl) fun S4 H => ?_
      replace H : Cx S [] S4 [] [.pt b 0 l[i].cs, .pt p off l[i].cs, .sl v 4 (tks l)] := H.freeze (i := 0) (c := l[i].cs) rfl
      refine wp_loada H (cs := l[i].cs) (by repeat (first | exact List.Mem.head _ | apply List.Mem.tail)) (Nat.le_of_ble_eq_true rfl) ?_
      refine wp_callV H one_ok fun S5 H => ?_
      refine wp_neq (fun hne => ?_) (fun he => ?_)
      · rw [if_neg hne] at hc
        repeat (first|refine zA ?_|refine zB rfl ?_|refine zC ?_|refine zD ?_|refine zE rfl ?_|refine zF ?_|refine zG ?_|refine zH ?_|refine zI ?_|refine zJ ?_|refine zK ?_|refine zL rfl ?_|refine zN rfl ?_)
        exact wp_ret (.inr ⟨by simp, rfl, by rw [← hc]; rfl, H.grows⟩)
      · rw [if_pos he] at hc
        repeat (first|refine zA ?_|refine zB rfl ?_|refine zC ?_|refine zD ?_|refine zE rfl ?_|refine zF ?_|refine zG ?_|refine zH ?_|refine zI ?_|refine zJ ?_|refine zK ?_|refine zL rfl ?_|refine zN rfl ?_)
        refine wp_ret ?_
        show wp EM _ _ _
        exact wp_add64 (by omega) (by omega) (wp_ret (.inl ⟨rfl, _, rfl, hc, H.tl.tl⟩))
    · rintro vs S1 ⟨u, rfl, hc, H⟩
      refine wp_lss_f (by omega) ?_
      repeat (first|refine zA ?_|refine zB rfl ?_|refine zC ?_|refine zD ?_|refine zE rfl ?_|refine zF ?_|refine zG ?_|refine zH ?_|refine zI ?_|refine zJ ?_|refine zK ?_|refine zL rfl ?_|refine zN rfl ?_)
      refine wp_ret ⟨by simp, wp_ret ⟨rfl, ?_, H.grows⟩⟩
      rw [List.drop_length] at hc
      rw [← hc]; rfl
theorem refCheck_ok {S : AH} {v : AV} {l : List Tk} (hv : RoSl S v 4 (tks l)) : wpC EM (.fn (.func 102) [] []) [v] S fun r S' => r = I (tchk l) ∧ Grows S S' := by
  refine wpC_fn (b := Try.a102) rfl rfl ?_
  have H := Cx.ro1 hv
  unfold Try.a102
  refine wp_len H (by repeat (first | exact List.Mem.head _ | apply List.Mem.tail)) ?_
  rw [tks_len]
  unfold tchk
  refine wp_gtr (fun hlt => ?_) (fun hge => ?_)
  · repeat (first|refine zA ?_|refine zB rfl ?_|refine zC ?_|refine zD ?_|refine zE rfl ?_|refine zF ?_|refine zG ?_|refine zH ?_|refine zI ?_|refine zJ ?_|refine zK ?_|refine zL rfl ?_|refine zN rfl ?_)
    refine wp_ret ⟨rfl, ?_, H.grows⟩
    rw [if_pos (by omega)]; rfl
  · rw [if_neg (by omega)]
    repeat (first|refine zA ?_|refine zB rfl ?_|refine zC ?_|refine zD ?_|refine zE rfl ?_|refine zF ?_|refine zG ?_|refine zH ?_|refine zI ?_|refine zJ ?_|refine zK ?_|refine zL rfl ?_|refine zN rfl ?_)
    refine wp_bind (wp_loop (wpL_for l.length (fun i vs S1 => ∃ u : AV, vs = [I (i : Int), u] ∧ tfirst (l.drop i) = tfirst l ∧ Cx S [] S1 [] [.sl v 4 (tks l)]) ?_ ?_ ⟨_, rfl, rfl, H⟩))
    · rintro i vs S1 hlt ⟨u, rfl, hc, H⟩
      rw [tfirst_drop hlt] at hc
      refine wp_len H (by repeat (first | exact List.Mem.head _ | apply List.Mem.tail)) ?_
      rw [tks_len]
      refine wp_lss_t (by omega) ?_
      repeat (first|refine zA ?_|refine zB rfl ?_|refine zC ?_|refine zD ?_|refine zE rfl ?_|refine zF ?_|refine zG ?_|refine zH ?_|refine zI ?_|refine zJ ?_|refine zK ?_|refine zL rfl ?_|refine zN rfl ?_)
      refine wp_bind ?_
      refine wp_saddr (i := i) H (by repeat (first | exact List.Mem.head _ | apply List.Mem.tail)) (tks_get hlt) fun p off H => ?_
      refine wp_loada H (cs := l[i].cs) (by repeat (first | exact List.Mem.head _ | apply List.Mem.tail)) (Nat.le_of_ble_eq_true rfl) ?_
      refine wp_callV H refOne_ok fun S5 H => ?_
      refine wp_neq (fun hne => ?_) (fun he => ?_)
      · rw [if_neg hne] at hc
        repeat (first|refine zA ?_|refine zB rfl ?_|refine zC ?_|refine zD ?_|refine zE rfl ?_|refine zF ?_|refine zG ?_|refine zH ?_|refine zI ?_|refine zJ ?_|refine zK ?_|refine zL rfl ?_|refine zN rfl ?_)
        exact wp_ret (.inr ⟨by simp, rfl, by rw [← hc]; rfl, H.grows⟩)
      · rw [if_pos he] at hc
        repeat (first|refine zA ?_|refine zB rfl ?_|refine zC ?_|refine zD ?_|refine zE rfl ?_|refine zF ?_|refine zG ?_|refine zH ?_|refine zI ?_|refine zJ ?_|refine zK ?_|refine zL rfl ?_|refine zN rfl ?_)
        refine wp_ret ?_
        show wp EM _ _ _
        exact wp_add64 (by omega) (by omega) (wp_ret (.inl ⟨rfl, _, rfl, hc, H.tl⟩))
    · rintro vs S1 ⟨u, rfl, hc, H⟩
      refine wp_len H (by repeat (first | exact List.Mem.head _ | apply List.Mem.tail)) ?_
      rw [tks_len]
      refine wp_lss_f (by omega) ?_
      repeat (first|refine zA ?_|refine zB rfl ?_|refine zC ?_|refine zD ?_|refine zE rfl ?_|refine zF ?_|refine zG ?_|refine zH ?_|refine zI ?_|refine zJ ?_|refine zK ?_|refine zL rfl ?_|refine zN rfl ?_)
      refine wp_ret ⟨by simp, wp_ret ⟨rfl, ?_, H.grows⟩⟩
      rw [List.drop_length] at hc
      rw [← hc]; rfl

/-! times -/
def timed (x : Tk) : Bool := decide (x.kind = 1 ∧ tone x = 0)
structure TOk (f e : Int) : Prop where
  f0 : 0 ≤ f
  f1 : f ≤ 1099511627776
  e0 : 1 ≤ e
  e1 : e ≤ 1099511627776
theorem timed_ok {x : Tk} (h : timed x = true) : TOk x.first x.every := by
  unfold timed at h
  have h := of_decide_eq_true h
  obtain ⟨h1, h2⟩ := h
  unfold tone at h2
  rw [if_neg (by omega)] at h2
  split at h2
  · cases h2
  · exact ⟨by omega, by omega, by omega, by omega⟩
def cl (f e : Int) : AV := .agg [I f, I e]
def many (f e : Int) : Int := (1099511627776 - f) / e + 1
theorem many_bd {f e : Int} (h : TOk f e) : 1 ≤ many f e ∧ many f e ≤ 1099511627777 := by
  obtain ⟨h1, h2, h3, h4⟩ := h
  have a : 0 ≤ (1099511627776 - f) / e := Int.ediv_nonneg (by omega) (by omega)
  have b : (1099511627776 - f) / e ≤ 1099511627776 - f := Int.ediv_le_self _ (by omega)
  unfold many
  omega
theorem many_ok {S : AH} {f e : Int} (h : TOk f e) : wpC EM (.fn (.func 157) [] []) [cl f e] S fun r S' => r = I (many f e) ∧ Grows S S' := by
  refine wpC_fn (b := Try.a157) rfl rfl ?_
  have H : Cx S [] S [] [] := Cx.enter (by simp)
  unfold Try.a157
  have hb := many_bd h
  obtain ⟨h1, h2, h3, h4⟩ := h
  refine wp_box H rfl fun b S1 H => ?_
  repeat (first|refine zA ?_|refine zB rfl ?_|refine zC ?_|refine zD ?_|refine zE rfl ?_|refine zF ?_|refine zG ?_|refine zH ?_|refine zI ?_|refine zJ ?_|refine zK ?_|refine zL rfl ?_|refine zN rfl ?_)
  refine wp_load1 H (by repeat (first | exact List.Mem.head _ | apply List.Mem.tail)) rfl ?_
  refine wp_sub64 (by omega) (by omega) ?_
  repeat (first|refine zA ?_|refine zB rfl ?_|refine zC ?_|refine zD ?_|refine zE rfl ?_|refine zF ?_|refine zG ?_|refine zH ?_|refine zI ?_|refine zJ ?_|refine zK ?_|refine zL rfl ?_|refine zN rfl ?_)
  refine wp_load1 H (by repeat (first | exact List.Mem.head _ | apply List.Mem.tail)) rfl ?_
  have e1 : (1099511627776 - f).tdiv e = (1099511627776 - f) / e := Int.tdiv_eq_ediv_of_nonneg (by omega)
  unfold many at hb ⊢
  refine wp_quo (c := (1099511627776 - f) / e) (by omega) (by rw [e1]; exact wrap64 (by omega) (by omega)) ?_
  refine wp_add64 (by omega) (by omega) ?_
  exact wp_ret ⟨rfl, rfl, H.grows⟩
theorem refMany_ok {S : AH} {x : Tk} (h : TOk x.first x.every) : wpC EM (.fn (.func 158) [] []) [.agg x.cs] S fun r S' => r = I (many x.first x.every) ∧ Grows S S' := by
  refine wpC_fn (b := Try.a158) rfl rfl ?_
  have H : Cx S [] S [] [] := Cx.enter (by simp)
  unfold Try.a158
  have hb := many_bd h
  obtain ⟨h1, h2, h3, h4⟩ := h
  refine wp_box H rfl fun b S1 H => ?_
  repeat (first|refine zA ?_|refine zB rfl ?_|refine zC ?_|refine zD ?_|refine zE rfl ?_|refine zF ?_|refine zG ?_|refine zH ?_|refine zI ?_|refine zJ ?_|refine zK ?_|refine zL rfl ?_|refine zN rfl ?_)
  refine wp_load1 H (by repeat (first | exact List.Mem.head _ | apply List.Mem.tail)) rfl ?_
  refine wp_sub64 (by omega) (by omega) ?_
  repeat (first|refine zA ?_|refine zB rfl ?_|refine zC ?_|refine zD ?_|refine zE rfl ?_|refine zF ?_|refine zG ?_|refine zH ?_|refine zI ?_|refine zJ ?_|refine zK ?_|refine zL rfl ?_|refine zN rfl ?_)
  refine wp_load1 H (by repeat (first | exact List.Mem.head _ | apply List.Mem.tail)) rfl ?_
  have e1 : (1099511627776 - x.first).tdiv x.every = (1099511627776 - x.first) / x.every := Int.tdiv_eq_ediv_of_nonneg (by omega)
  unfold many at hb ⊢
  refine wp_quo (c := (1099511627776 - x.first) / x.every) (by omega) (by rw [e1]; exact wrap64 (by omega) (by omega)) ?_
  refine wp_add64 (by omega) (by omega) ?_
  exact wp_ret ⟨rfl, rfl, H.grows⟩
/-- the number of the first time that is not below a moment -/
def num (f e now : Int) : Int := if now ≤ f then 0 else (now - f) / e + (if (now - f) % e = 0 then 0 else 1)
theorem num_ceil {f e now : Int} (he : 1 ≤ e) (hn : f < now) : num f e now = (now - f + e - 1) / e := by
  unfold num
  rw [if_neg (by omega)]
  have h1 := Int.emod_add_mul_ediv (now - f) e
  have h2 := Int.emod_nonneg (now - f) (by omega : e ≠ 0)
  have h3 := Int.emod_lt_of_pos (now - f) (by omega : 0 < e)
  generalize (now - f) % e = r at h1 h2 h3 ⊢
  generalize (now - f) / e = q at h1 ⊢
  symm
  split
  · rename_i hr
    have : now - f + e - 1 = (e - 1) + e * q := by rw [hr] at h1; omega
    rw [this, Int.add_mul_ediv_left _ _ (by omega), Int.ediv_eq_zero_of_lt (by omega) (by omega)]
    omega
  · have : now - f + e - 1 = (r - 1) + e * (q + 1) := by rw [Int.mul_add]; omega
    rw [this, Int.add_mul_ediv_left _ _ (by omega), Int.ediv_eq_zero_of_lt (by omega) (by omega)]
    omega
theorem num_bd {f e now : Int} (he : 1 ≤ e) : 0 ≤ num f e now ∧ (f < now → num f e now ≤ now - f) := by
  by_cases h : now ≤ f
  · unfold num; rw [if_pos h]; constructor <;> omega
  · rw [num_ceil he (by omega)]
    refine ⟨Int.ediv_nonneg (by omega) (by omega), fun _ => ?_⟩
    have : (now - f + e - 1) / e < now - f + 1 := Int.ediv_lt_of_lt_mul (by omega) (by
      have : (now - f + 1) * e = (now - f) * e + e := by rw [Int.add_mul]; omega
      have h2 : (now - f) * 1 ≤ (now - f) * e := Int.mul_le_mul_of_nonneg_left he (by omega)
      omega)
    omega
def since (f e now : Int) : Int := if now ≤ f then 0 else if 1099511627776 < now then many f e else min (many f e) (num f e now)
/-- behind the last moment there is none -/
theorem num_most {f e : Int} (h : TOk f e) : num f e (1099511627776 + 1) = many f e := by
  obtain ⟨h1, h2, h3, h4⟩ := h
  rw [num_ceil h3 (by omega)]
  unfold many
  have : 1099511627776 + 1 - f + e - 1 = (1099511627776 - f) + e * 1 := by omega
  rw [this, Int.add_mul_ediv_left _ _ (by omega)]
theorem since_eq {f e now : Int} (h : TOk f e) : since f e now = min (many f e) (num f e (min now (1099511627776 + 1))) := by
  have hm := num_most h
  have hb := many_bd h
  unfold since
  split
  · rename_i hn
    have : num f e (min now (1099511627776 + 1)) = 0 := by unfold num; rw [if_pos (by have := h.f1; omega)]
    rw [this]; omega
  · split
    · rw [show min now (1099511627776 + 1) = 1099511627776 + 1 by omega, hm]; omega
    · rw [show min now (1099511627776 + 1) = now by omega]
theorem since_bd {f e now : Int} (h : TOk f e) : 0 ≤ since f e now ∧ since f e now ≤ many f e := by
  have := many_bd h
  have := (num_bd (f := f) (now := min now (1099511627776 + 1)) h.e0).1
  rw [since_eq h]; omega
end Go.Abs.Tsk
namespace Go.Abs.Tsk
open Go.Proofs
set_option maxRecDepth 100000
theorem e_min1 (a b : Int) : minmax1 false (I a) (I b) = some (I (min a b)) := by
  have : minmax1 false (I a) (I b) = some (I (if ltF b a then b else a)) := rfl
  rw [this, ltF_eq]
  congr 2
  by_cases h : b < a
  · simp [h]; omega
  · simp [h]; omega
theorem wp_min {M : Mach} {S : AH} {Q : Post} {k : AV → AC} {a b : Int} (h : wp M (k (I (min a b))) S Q) : wp M (.op (.minmax false [I a, I b]) k) S Q := wp_op (v := I (min a b)) (by
  show pur (minmax1 false (I a) (I b)) S = _
  rw [e_min1]; rfl) h
theorem wp_min3 {M : Mach} {S : AH} {Q : Post} {k : AV → AC} {a b c : Int} (h : wp M (k (I (min (min a b) c))) S Q) : wp M (.op (.minmax false [I a, I b, I c]) k) S Q := wp_op (v := I (min (min a b) c)) (by
  show pur ((minmax1 false (I a) (I b)).bind fun x => (minmax1 false x (I c)).bind some) S = _
  rw [e_min1]
  show pur ((minmax1 false (I (min a b)) (I c)).bind some) S = _
  rw [e_min1]; rfl) h
theorem wp_not {M : Mach} {S : AH} {Q : Post} {k : AV → AC} {b : Bool} (h : wp M (k (B (!b))) S Q) : wp M (.op (.un .not (B b)) k) S Q := wp_op (v := B (!b)) rfl h
theorem tk_beq {x : Tk} : ∀ y ∈ x.cs, AV.beq y y = true := by
  intro y hy
  simp only [Tk.cs, List.mem_cons, List.not_mem_nil, or_false] at hy
  rcases hy with rfl | rfl | rfl | rfl <;> exact beq_num
theorem cl_beq {f e : Int} : ∀ y ∈ [I f, I e], AV.beq y y = true := by
  intro y hy
  simp only [List.mem_cons, List.not_mem_nil, or_false] at hy
  rcases hy with rfl | rfl <;> exact beq_num

theorem of_ok {S : AH} {x : Tk} : wpC EM (.fn (.func 132) [] []) [.agg x.cs] S fun r S' => r = .tup [cl x.first x.every, B (timed x)] ∧ Grows S S' := by
  refine wpC_fn (b := Try.a132) rfl rfl ?_
  have H : Cx S [] S [] [] := Cx.enter (by simp)
  unfold Try.a132
  refine wp_fin ?_
  refine wp_box H rfl fun b S1 H => ?_
  refine wp_alloc H fun o S2 H => ?_
  repeat (first|refine zA ?_|refine zB rfl ?_|refine zC ?_|refine zD ?_|refine zE rfl ?_|refine zF ?_|refine zG ?_|refine zH ?_|refine zI ?_|refine zJ ?_|refine zK ?_|refine zL rfl ?_|refine zN rfl ?_)
  refine wp_load1 H (by repeat (first | exact List.Mem.head _ | apply List.Mem.tail)) rfl ?_
  repeat (first|refine zA ?_|refine zB rfl ?_|refine zC ?_|refine zD ?_|refine zE rfl ?_|refine zF ?_|refine zG ?_|refine zH ?_|refine zI ?_|refine zJ ?_|refine zK ?_|refine zL rfl ?_|refine zN rfl ?_)
  refine wp_load1 H (by repeat (first | exact List.Mem.head _ | apply List.Mem.tail)) rfl ?_
  refine wp_op (v := cl x.first x.every) rfl ?_
  repeat (first|refine zA ?_|refine zB rfl ?_|refine zC ?_|refine zD ?_|refine zE rfl ?_|refine zF ?_|refine zG ?_|refine zH ?_|refine zI ?_|refine zJ ?_|refine zK ?_|refine zL rfl ?_|refine zN rfl ?_)
  refine wp_load1 H (by repeat (first | exact List.Mem.head _ | apply List.Mem.tail)) rfl ?_
  have fin : ∀ S3 t, Cx S [] S3 [.obj o (.row [I 0, I 0])] [.pt b 0 x.cs] → timed x = t → wp EM (.op (.store 2 (.ptr o 0) (cl x.first x.every)) fun v15 => .ret .ret [.ptr o 0, B t]) S3 fun t vs S' => (t = .normal ∨ t = .ret) ∧ wp EM (.op (.load 2 true (nth vs 0)) fun v2 => .ret .ret [v2, (nth vs 1)]) S' fun t vs S' => t = .ret ∧ oneOf vs = .tup [cl x.first x.every, B (timed x)] ∧ Grows S S' := by
    intro S3 t H ht
    refine wp_store H 0 rfl rfl rfl (Nat.le_of_ble_eq_true rfl) fun S4 H => ?_
    refine wp_ret ⟨.inr rfl, ?_⟩
    refine wp_loadoa (n := 2) H 0 rfl (Nat.le_of_ble_eq_true rfl) ?_
    refine wp_ret ⟨rfl, ?_, H.grows⟩
    rw [ht]; rfl
  refine wp_eql (fun h1 => ?_) (fun h1 => ?_)
  · repeat (first|refine zA ?_|refine zB rfl ?_|refine zC ?_|refine zD ?_|refine zE rfl ?_|refine zF ?_|refine zG ?_|refine zH ?_|refine zI ?_|refine zJ ?_|refine zK ?_|refine zL rfl ?_|refine zN rfl ?_)
    refine wp_loada H (cs := x.cs) (by repeat (first | exact List.Mem.head _ | apply List.Mem.tail)) (Nat.le_of_ble_eq_true rfl) ?_
    repeat (first|refine zA ?_|refine zB rfl ?_|refine zC ?_|refine zD ?_|refine zE rfl ?_|refine zF ?_|refine zG ?_|refine zH ?_|refine zI ?_|refine zJ ?_|refine zK ?_|refine zL rfl ?_|refine zN rfl ?_)
    refine wp_callV H one_ok fun S3 H => ?_
    refine wp_chk1 (v := I x.first) H (cs := x.cs) (by repeat (first | exact List.Mem.head _ | apply List.Mem.tail)) rfl beq_num ?_
    refine wp_chk1 (v := I x.every) H (cs := x.cs) (by repeat (first | exact List.Mem.head _ | apply List.Mem.tail)) rfl beq_num ?_
    repeat (first|refine zA ?_|refine zB rfl ?_|refine zC ?_|refine zD ?_|refine zE rfl ?_|refine zF ?_|refine zG ?_|refine zH ?_|refine zI ?_|refine zJ ?_|refine zK ?_|refine zL rfl ?_|refine zN rfl ?_)
    refine wp_eql (fun h2 => ?_) (fun h2 => ?_)
    · repeat (first|refine zA ?_|refine zB rfl ?_|refine zC ?_|refine zD ?_|refine zE rfl ?_|refine zF ?_|refine zG ?_|refine zH ?_|refine zI ?_|refine zJ ?_|refine zK ?_|refine zL rfl ?_|refine zN rfl ?_)
      exact fin S3 _ H (decide_eq_true ⟨h1, h2⟩)
    · repeat (first|refine zA ?_|refine zB rfl ?_|refine zC ?_|refine zD ?_|refine zE rfl ?_|refine zF ?_|refine zG ?_|refine zH ?_|refine zI ?_|refine zJ ?_|refine zK ?_|refine zL rfl ?_|refine zN rfl ?_)
      exact fin S3 _ H (decide_eq_false fun h => h2 h.2)
  · repeat (first|refine zA ?_|refine zB rfl ?_|refine zC ?_|refine zD ?_|refine zE rfl ?_|refine zF ?_|refine zG ?_|refine zH ?_|refine zI ?_|refine zJ ?_|refine zK ?_|refine zL rfl ?_|refine zN rfl ?_)
    refine wp_chk1 (v := I x.first) H (cs := x.cs) (by repeat (first | exact List.Mem.head _ | apply List.Mem.tail)) rfl beq_num ?_
    refine wp_chk1 (v := I x.every) H (cs := x.cs) (by repeat (first | exact List.Mem.head _ | apply List.Mem.tail)) rfl beq_num ?_
    repeat (first|refine zA ?_|refine zB rfl ?_|refine zC ?_|refine zD ?_|refine zE rfl ?_|refine zF ?_|refine zG ?_|refine zH ?_|refine zI ?_|refine zJ ?_|refine zK ?_|refine zL rfl ?_|refine zN rfl ?_)
    exact fin S2 _ H (decide_eq_false fun h => h1 h.1)
theorem refTimed_ok {S : AH} {x : Tk} : wpC EM (.fn (.func 136) [] []) [.agg x.cs] S fun r S' => r = B (timed x) ∧ Grows S S' := by
  refine wpC_fn (b := Try.a136) rfl rfl ?_
  have H : Cx S [] S [] [] := Cx.enter (by simp)
  unfold Try.a136
  refine wp_box H rfl fun b S1 H => ?_
  refine wp_loada H (cs := x.cs) (by repeat (first | exact List.Mem.head _ | apply List.Mem.tail)) (Nat.le_of_ble_eq_true rfl) ?_
  refine wp_callV H refOne_ok fun S3 H => ?_
  refine wp_eql (fun h2 => ?_) (fun h2 => ?_)
  · repeat (first|refine zA ?_|refine zB rfl ?_|refine zC ?_|refine zD ?_|refine zE rfl ?_|refine zF ?_|refine zG ?_|refine zH ?_|refine zI ?_|refine zJ ?_|refine zK ?_|refine zL rfl ?_|refine zN rfl ?_)
    refine wp_load1 H (cs := x.cs) (by repeat (first | exact List.Mem.head _ | apply List.Mem.tail)) rfl ?_
    repeat (first|refine zA ?_|refine zB rfl ?_|refine zC ?_|refine zD ?_|refine zE rfl ?_|refine zF ?_|refine zG ?_|refine zH ?_|refine zI ?_|refine zJ ?_|refine zK ?_|refine zL rfl ?_|refine zN rfl ?_)
    refine wp_eql (fun h1 => ?_) (fun h1 => ?_)
    · repeat (first|refine zA ?_|refine zB rfl ?_|refine zC ?_|refine zD ?_|refine zE rfl ?_|refine zF ?_|refine zG ?_|refine zH ?_|refine zI ?_|refine zJ ?_|refine zK ?_|refine zL rfl ?_|refine zN rfl ?_)
      exact wp_ret ⟨rfl, by rw [show timed x = true from decide_eq_true ⟨h1, h2⟩]; rfl, H.grows⟩
    · repeat (first|refine zA ?_|refine zB rfl ?_|refine zC ?_|refine zD ?_|refine zE rfl ?_|refine zF ?_|refine zG ?_|refine zH ?_|refine zI ?_|refine zJ ?_|refine zK ?_|refine zL rfl ?_|refine zN rfl ?_)
      exact wp_ret ⟨rfl, by rw [show timed x = false from decide_eq_false fun h => h1 h.1]; rfl, H.grows⟩
  · repeat (first|refine zA ?_|refine zB rfl ?_|refine zC ?_|refine zD ?_|refine zE rfl ?_|refine zF ?_|refine zG ?_|refine zH ?_|refine zI ?_|refine zJ ?_|refine zK ?_|refine zL rfl ?_|refine zN rfl ?_)
    exact wp_ret ⟨rfl, by rw [show timed x = false from decide_eq_false fun h => h2 h.2]; rfl, H.grows⟩
theorem since_ok {S : AH} {f e now : Int} (h : TOk f e) : wpC EM (.fn (.func 134) [] []) [cl f e, I now] S fun r S' => r = I (since f e now) ∧ Grows S S' := by
  refine wpC_fn (b := Try.a134) rfl rfl ?_
  have H : Cx S [] S [] [] := Cx.enter (by simp)
  have hb := many_bd h
  have h4 := h
  obtain ⟨f0, f1, e0, e1⟩ := h4
  unfold Try.a134
  refine wp_box H rfl fun b S1 H => ?_
  refine wp_bind ?_
  repeat (first|refine zA ?_|refine zB rfl ?_|refine zC ?_|refine zD ?_|refine zE rfl ?_|refine zF ?_|refine zG ?_|refine zH ?_|refine zI ?_|refine zJ ?_|refine zK ?_|refine zL rfl ?_|refine zN rfl ?_)
  refine wp_load1 H (by repeat (first | exact List.Mem.head _ | apply List.Mem.tail)) rfl ?_
  unfold since
  refine wp_leq (fun h1 => ?_) (fun h1 => ?_)
  · rw [if_pos h1]
    repeat (first|refine zA ?_|refine zB rfl ?_|refine zC ?_|refine zD ?_|refine zE rfl ?_|refine zF ?_|refine zG ?_|refine zH ?_|refine zI ?_|refine zJ ?_|refine zK ?_|refine zL rfl ?_|refine zN rfl ?_)
    exact wp_ret ⟨rfl, rfl, H.grows⟩
  rw [if_neg (by omega)]
  repeat (first|refine zA ?_|refine zB rfl ?_|refine zC ?_|refine zD ?_|refine zE rfl ?_|refine zF ?_|refine zG ?_|refine zH ?_|refine zI ?_|refine zJ ?_|refine zK ?_|refine zL rfl ?_|refine zN rfl ?_)
  refine wp_gtr (fun h2 => ?_) (fun h2 => ?_)
  · rw [if_pos h2]
    repeat (first|refine zA ?_|refine zB rfl ?_|refine zC ?_|refine zD ?_|refine zE rfl ?_|refine zF ?_|refine zG ?_|refine zH ?_|refine zI ?_|refine zJ ?_|refine zK ?_|refine zL rfl ?_|refine zN rfl ?_)
    refine wp_loada H (cs := [I f, I e]) (by repeat (first | exact List.Mem.head _ | apply List.Mem.tail)) (Nat.le_of_ble_eq_true rfl) ?_
    refine wp_callV H (many_ok h) fun S3 H => ?_
    exact wp_ret ⟨rfl, rfl, H.grows⟩
  rw [if_neg (by omega)]
  repeat (first|refine zA ?_|refine zB rfl ?_|refine zC ?_|refine zD ?_|refine zE rfl ?_|refine zF ?_|refine zG ?_|refine zH ?_|refine zI ?_|refine zJ ?_|refine zK ?_|refine zL rfl ?_|refine zN rfl ?_)
  refine wp_ret ?_
  show wp EM _ _ _
  refine wp_loada H (cs := [I f, I e]) (by repeat (first | exact List.Mem.head _ | apply List.Mem.tail)) (Nat.le_of_ble_eq_true rfl) ?_
  repeat (first|refine zA ?_|refine zB rfl ?_|refine zC ?_|refine zD ?_|refine zE rfl ?_|refine zF ?_|refine zG ?_|refine zH ?_|refine zI ?_|refine zJ ?_|refine zK ?_|refine zL rfl ?_|refine zN rfl ?_)
  refine wp_load1 H (cs := [I f, I e]) (by repeat (first | exact List.Mem.head _ | apply List.Mem.tail)) rfl ?_
  refine wp_sub64 (by omega) (by omega) ?_
  repeat (first|refine zA ?_|refine zB rfl ?_|refine zC ?_|refine zD ?_|refine zE rfl ?_|refine zF ?_|refine zG ?_|refine zH ?_|refine zI ?_|refine zJ ?_|refine zK ?_|refine zL rfl ?_|refine zN rfl ?_)
  refine wp_load1 H (cs := [I f, I e]) (by repeat (first | exact List.Mem.head _ | apply List.Mem.tail)) rfl ?_
  refine wp_add64 (by omega) (by omega) ?_
  refine wp_sub64 (by omega) (by omega) ?_
  repeat (first|refine zA ?_|refine zB rfl ?_|refine zC ?_|refine zD ?_|refine zE rfl ?_|refine zF ?_|refine zG ?_|refine zH ?_|refine zI ?_|refine zJ ?_|refine zK ?_|refine zL rfl ?_|refine zN rfl ?_)
  refine wp_load1 H (cs := [I f, I e]) (by repeat (first | exact List.Mem.head _ | apply List.Mem.tail)) rfl ?_
  have hn := num_ceil (f := f) (now := now) e0 (by omega)
  have hnb := num_bd (f := f) (now := now) e0
  have ed : (now - f + e - 1).tdiv e = num f e now := by rw [hn]; exact Int.tdiv_eq_ediv_of_nonneg (by omega)
  refine wp_quo (c := num f e now) (by omega) (by rw [ed]; exact wrap64 (by omega) (by omega)) ?_
  refine wp_callV H (many_ok h) fun S3 H => ?_
  refine wp_chk1 (v := I f) H (cs := [I f, I e]) (by repeat (first | exact List.Mem.head _ | apply List.Mem.tail)) rfl beq_num ?_
  refine wp_chk1 (v := I e) H (cs := [I f, I e]) (by repeat (first | exact List.Mem.head _ | apply List.Mem.tail)) rfl beq_num ?_
  refine wp_chk1 (v := I e) H (cs := [I f, I e]) (by repeat (first | exact List.Mem.head _ | apply List.Mem.tail)) rfl beq_num ?_
  refine wp_min ?_
  exact wp_ret ⟨rfl, rfl, H.grows⟩
theorem refNumber_ok {S : AH} {x : Tk} {now : Int} (h : TOk x.first x.every) (hn : now ≤ 1099511627777) : wpC EM (.fn (.func 138) [] []) [.agg x.cs, I now] S fun r S' => r = I (num x.first x.every now) ∧ Grows S S' := by
  refine wpC_fn (b := Try.a138) rfl rfl ?_
  have H : Cx S [] S [] [] := Cx.enter (by simp)
  obtain ⟨f0, f1, e0, e1⟩ := h
  unfold Try.a138
  refine wp_box H rfl fun b S1 H => ?_
  repeat (first|refine zA ?_|refine zB rfl ?_|refine zC ?_|refine zD ?_|refine zE rfl ?_|refine zF ?_|refine zG ?_|refine zH ?_|refine zI ?_|refine zJ ?_|refine zK ?_|refine zL rfl ?_|refine zN rfl ?_)
  refine wp_load1 H (cs := x.cs) (by repeat (first | exact List.Mem.head _ | apply List.Mem.tail)) rfl ?_
  have hnb := num_bd (f := x.first) (now := now) e0
  unfold num at hnb ⊢
  refine wp_leq (fun h1 => ?_) (fun h1 => ?_)
  · rw [if_pos h1]
    repeat (first|refine zA ?_|refine zB rfl ?_|refine zC ?_|refine zD ?_|refine zE rfl ?_|refine zF ?_|refine zG ?_|refine zH ?_|refine zI ?_|refine zJ ?_|refine zK ?_|refine zL rfl ?_|refine zN rfl ?_)
    exact wp_ret ⟨rfl, rfl, H.grows⟩
  rw [if_neg (by omega)] at hnb ⊢
  have ed : (now - x.first).tdiv x.every = (now - x.first) / x.every := Int.tdiv_eq_ediv_of_nonneg (by omega)
  have em : (now - x.first).tmod x.every = (now - x.first) % x.every := Int.tmod_eq_emod_of_nonneg (by omega)
  have q0 : 0 ≤ (now - x.first) / x.every := Int.ediv_nonneg (by omega) (by omega)
  have q1 := Int.ediv_le_self x.every (by omega : 0 ≤ now - x.first)
  repeat (first|refine zA ?_|refine zB rfl ?_|refine zC ?_|refine zD ?_|refine zE rfl ?_|refine zF ?_|refine zG ?_|refine zH ?_|refine zI ?_|refine zJ ?_|refine zK ?_|refine zL rfl ?_|refine zN rfl ?_)
  refine wp_load1 H (cs := x.cs) (by repeat (first | exact List.Mem.head _ | apply List.Mem.tail)) rfl ?_
  refine wp_sub64 (by omega) (by omega) ?_
  repeat (first|refine zA ?_|refine zB rfl ?_|refine zC ?_|refine zD ?_|refine zE rfl ?_|refine zF ?_|refine zG ?_|refine zH ?_|refine zI ?_|refine zJ ?_|refine zK ?_|refine zL rfl ?_|refine zN rfl ?_)
  refine wp_load1 H (cs := x.cs) (by repeat (first | exact List.Mem.head _ | apply List.Mem.tail)) rfl ?_
  refine wp_quo (c := (now - x.first) / x.every) (by omega) (by rw [ed]; exact wrap64 (by omega) (by omega)) ?_
  repeat (first|refine zA ?_|refine zB rfl ?_|refine zC ?_|refine zD ?_|refine zE rfl ?_|refine zF ?_|refine zG ?_|refine zH ?_|refine zI ?_|refine zJ ?_|refine zK ?_|refine zL rfl ?_|refine zN rfl ?_)
  refine wp_load1 H (cs := x.cs) (by repeat (first | exact List.Mem.head _ | apply List.Mem.tail)) rfl ?_
  refine wp_sub64 (by omega) (by omega) ?_
  repeat (first|refine zA ?_|refine zB rfl ?_|refine zC ?_|refine zD ?_|refine zE rfl ?_|refine zF ?_|refine zG ?_|refine zH ?_|refine zI ?_|refine zJ ?_|refine zK ?_|refine zL rfl ?_|refine zN rfl ?_)
  refine wp_load1 H (cs := x.cs) (by repeat (first | exact List.Mem.head _ | apply List.Mem.tail)) rfl ?_
  refine wp_rem (by omega) ?_
  rw [em]
  refine wp_neq (fun h2 => ?_) (fun h2 => ?_)
  · rw [if_neg h2]
    refine wp_bind ?_
    repeat (first|refine zA ?_|refine zB rfl ?_|refine zC ?_|refine zD ?_|refine zE rfl ?_|refine zF ?_|refine zG ?_|refine zH ?_|refine zI ?_|refine zJ ?_|refine zK ?_|refine zL rfl ?_|refine zN rfl ?_)
    refine wp_add64 (by omega) (by omega) ?_
    refine wp_ret ?_
    show wp EM _ _ _
    exact wp_ret ⟨rfl, rfl, H.grows⟩
  · rw [if_pos h2]
    refine wp_bind ?_
    repeat (first|refine zA ?_|refine zB rfl ?_|refine zC ?_|refine zD ?_|refine zE rfl ?_|refine zF ?_|refine zG ?_|refine zH ?_|refine zI ?_|refine zJ ?_|refine zK ?_|refine zL rfl ?_|refine zN rfl ?_)
    refine wp_ret ?_
    show wp EM _ _ _
    refine wp_ret ⟨rfl, ?_, H.grows⟩
    rw [Int.add_zero]; rfl
end Go.Abs.Tsk
namespace Go.Abs.Tsk
open Go.Proofs
set_option maxRecDepth 100000
def count (x : Tk) (a b : Int) : Int := if timed x = true ∧ a < b then since x.first x.every b - since x.first x.every a else 0
def tat (x : Tk) (n : Int) : AV := if timed x = true ∧ 0 ≤ n ∧ n < many x.first x.every then .tup [I (x.first + n * x.every), B true] else .tup [I 0, B false]
/-- the numbers of the times lie where a number may -/
theorem time_bd {f e n : Int} (h : TOk f e) (h0 : 0 ≤ n) (h1 : n < many f e) : 0 ≤ n * e ∧ n * e ≤ 1099511627776 - f := by
  obtain ⟨f0, f1, e0, e1⟩ := h
  refine ⟨Int.mul_nonneg h0 (by omega), ?_⟩
  unfold many at h1
  have h2 : n * e ≤ (1099511627776 - f) / e * e := Int.mul_le_mul_of_nonneg_right (by omega) (by omega)
  have := Int.ediv_mul_le (1099511627776 - f) (by omega : e ≠ 0)
  omega

theorem refAt_ok {S : AH} {x : Tk} {n : Int} : wpC EM (.fn (.func 137) [] []) [.agg x.cs, I n] S fun r S' => r = tat x n ∧ Grows S S' := by
  refine wpC_fn (b := Try.a137) rfl rfl ?_
  have H : Cx S [] S [] [] := Cx.enter (by simp)
  unfold Try.a137 tat
  refine wp_box H rfl fun b0 S1 H => ?_
  refine wp_loada H (cs := x.cs) (by repeat (first | exact List.Mem.head _ | apply List.Mem.tail)) (Nat.le_of_ble_eq_true rfl) ?_
  refine wp_callV H refTimed_ok fun S2 H => ?_
  refine wp_not ?_
  cases ht : timed x with
  | false =>
    repeat (first|refine zA ?_|refine zB rfl ?_|refine zC ?_|refine zD ?_|refine zE rfl ?_|refine zF ?_|refine zG ?_|refine zH ?_|refine zI ?_|refine zJ ?_|refine zK ?_|refine zL rfl ?_|refine zN rfl ?_)
    rw [if_neg (by simp)]
    exact wp_ret ⟨rfl, rfl, H.grows⟩
  | true =>
    have hT := timed_ok ht
    have hb := many_bd hT
    repeat (first|refine zA ?_|refine zB rfl ?_|refine zC ?_|refine zD ?_|refine zE rfl ?_|refine zF ?_|refine zG ?_|refine zH ?_|refine zI ?_|refine zJ ?_|refine zK ?_|refine zL rfl ?_|refine zN rfl ?_)
    refine wp_lss (fun h0 => ?_) (fun h0 => ?_)
    · rw [if_neg (by omega)]
      repeat (first|refine zA ?_|refine zB rfl ?_|refine zC ?_|refine zD ?_|refine zE rfl ?_|refine zF ?_|refine zG ?_|refine zH ?_|refine zI ?_|refine zJ ?_|refine zK ?_|refine zL rfl ?_|refine zN rfl ?_)
      exact wp_ret ⟨rfl, rfl, H.grows⟩
    · repeat (first|refine zA ?_|refine zB rfl ?_|refine zC ?_|refine zD ?_|refine zE rfl ?_|refine zF ?_|refine zG ?_|refine zH ?_|refine zI ?_|refine zJ ?_|refine zK ?_|refine zL rfl ?_|refine zN rfl ?_)
      refine wp_loada H (cs := x.cs) (by repeat (first | exact List.Mem.head _ | apply List.Mem.tail)) (Nat.le_of_ble_eq_true rfl) ?_
      repeat (first|refine zA ?_|refine zB rfl ?_|refine zC ?_|refine zD ?_|refine zE rfl ?_|refine zF ?_|refine zG ?_|refine zH ?_|refine zI ?_|refine zJ ?_|refine zK ?_|refine zL rfl ?_|refine zN rfl ?_)
      refine wp_callV H (refMany_ok hT) fun S5 H => ?_
      repeat (first|refine zA ?_|refine zB rfl ?_|refine zC ?_|refine zD ?_|refine zE rfl ?_|refine zF ?_|refine zG ?_|refine zH ?_|refine zI ?_|refine zJ ?_|refine zK ?_|refine zL rfl ?_|refine zN rfl ?_)
      refine wp_geq (fun hge => ?_) (fun hlt => ?_)
      · rw [if_neg (by omega)]
        repeat (first|refine zA ?_|refine zB rfl ?_|refine zC ?_|refine zD ?_|refine zE rfl ?_|refine zF ?_|refine zG ?_|refine zH ?_|refine zI ?_|refine zJ ?_|refine zK ?_|refine zL rfl ?_|refine zN rfl ?_)
        exact wp_ret ⟨rfl, rfl, H.grows⟩
      · rw [if_pos ⟨rfl, h0, hlt⟩]
        have hbd := time_bd hT h0 hlt
        have hf0 := hT.f0
        have hf1 := hT.f1
        repeat (first|refine zA ?_|refine zB rfl ?_|refine zC ?_|refine zD ?_|refine zE rfl ?_|refine zF ?_|refine zG ?_|refine zH ?_|refine zI ?_|refine zJ ?_|refine zK ?_|refine zL rfl ?_|refine zN rfl ?_)
        refine wp_load1 H (cs := x.cs) (by repeat (first | exact List.Mem.head _ | apply List.Mem.tail)) rfl ?_
        repeat (first|refine zA ?_|refine zB rfl ?_|refine zC ?_|refine zD ?_|refine zE rfl ?_|refine zF ?_|refine zG ?_|refine zH ?_|refine zI ?_|refine zJ ?_|refine zK ?_|refine zL rfl ?_|refine zN rfl ?_)
        refine wp_load1 H (cs := x.cs) (by repeat (first | exact List.Mem.head _ | apply List.Mem.tail)) rfl ?_
        refine wp_mul (c := n * x.every) (wrap64 (by omega) (by omega)) ?_
        refine wp_add64 (by omega) (by omega) ?_
        exact wp_ret ⟨rfl, rfl, H.grows⟩
def tnext (x : Tk) (now : Int) : AV := if timed x = true ∧ since x.first x.every now < many x.first x.every then .tup [I (x.first + since x.first x.every now * x.every), B true] else .tup [I 0, B false]
theorem refNext_ok {S : AH} {x : Tk} {now : Int} : wpC EM (.fn (.func 103) [] []) [.agg x.cs, I now] S fun r S' => r = tnext x now ∧ Grows S S' := by
  refine wpC_fn (b := Try.a103) rfl rfl ?_
  have H : Cx S [] S [] [] := Cx.enter (by simp)
  unfold Try.a103 tnext
  refine wp_box H rfl fun b0 S1 H => ?_
  refine wp_loada H (cs := x.cs) (by repeat (first | exact List.Mem.head _ | apply List.Mem.tail)) (Nat.le_of_ble_eq_true rfl) ?_
  refine wp_callV H refTimed_ok fun S2 H => ?_
  refine wp_not ?_
  cases ht : timed x with
  | false =>
    repeat (first|refine zA ?_|refine zB rfl ?_|refine zC ?_|refine zD ?_|refine zE rfl ?_|refine zF ?_|refine zG ?_|refine zH ?_|refine zI ?_|refine zJ ?_|refine zK ?_|refine zL rfl ?_|refine zN rfl ?_)
    rw [if_neg (by simp)]
    exact wp_ret ⟨rfl, rfl, H.grows⟩
  | true =>
    have hT := timed_ok ht
    have hb := many_bd hT
    repeat (first|refine zA ?_|refine zB rfl ?_|refine zC ?_|refine zD ?_|refine zE rfl ?_|refine zF ?_|refine zG ?_|refine zH ?_|refine zI ?_|refine zJ ?_|refine zK ?_|refine zL rfl ?_|refine zN rfl ?_)
    refine wp_gtr (fun h0 => ?_) (fun h0 => ?_)
    · repeat (first|refine zA ?_|refine zB rfl ?_|refine zC ?_|refine zD ?_|refine zE rfl ?_|refine zF ?_|refine zG ?_|refine zH ?_|refine zI ?_|refine zJ ?_|refine zK ?_|refine zL rfl ?_|refine zN rfl ?_)
      have e1 : since x.first x.every now = many x.first x.every := by unfold since; rw [if_neg (by have := hT.f1; omega), if_pos h0]
      rw [if_neg (by omega)]
      exact wp_ret ⟨rfl, rfl, H.grows⟩
    · repeat (first|refine zA ?_|refine zB rfl ?_|refine zC ?_|refine zD ?_|refine zE rfl ?_|refine zF ?_|refine zG ?_|refine zH ?_|refine zI ?_|refine zJ ?_|refine zK ?_|refine zL rfl ?_|refine zN rfl ?_)
      refine wp_loada H (cs := x.cs) (by repeat (first | exact List.Mem.head _ | apply List.Mem.tail)) (Nat.le_of_ble_eq_true rfl) ?_
      refine wp_loada H (cs := x.cs) (by repeat (first | exact List.Mem.head _ | apply List.Mem.tail)) (Nat.le_of_ble_eq_true rfl) ?_
      refine wp_callV H (refNumber_ok hT (by omega)) fun S3 H => ?_
      refine wp_chkn (j := 0) (cs := x.cs) H (by repeat (first | exact List.Mem.head _ | apply List.Mem.tail)) (Nat.le_of_ble_eq_true rfl) rfl tk_beq ?_
      refine wp_callV H refAt_ok fun S4 H => ?_
      have ea : since x.first x.every now = min (many x.first x.every) (num x.first x.every now) := by rw [since_eq hT]; congr 2; omega
      have n0 := (num_bd (f := x.first) (now := now) hT.e0).1
      have key : tat x (num x.first x.every now) = if true = true ∧ since x.first x.every now < many x.first x.every then .tup [I (x.first + since x.first x.every now * x.every), B true] else .tup [I 0, B false] := by
        unfold tat
        by_cases hlt : num x.first x.every now < many x.first x.every
        · have : since x.first x.every now = num x.first x.every now := by omega
          rw [this, if_pos ⟨ht, n0, hlt⟩, if_pos ⟨rfl, hlt⟩]
        · rw [if_neg (by omega), if_neg (by omega)]
      rw [key]
      split
      · repeat (first|refine zA ?_|refine zB rfl ?_|refine zC ?_|refine zD ?_|refine zE rfl ?_|refine zF ?_|refine zG ?_|refine zH ?_|refine zI ?_|refine zJ ?_|refine zK ?_|refine zL rfl ?_|refine zN rfl ?_)
        exact wp_ret ⟨rfl, rfl, H.grows⟩
      · repeat (first|refine zA ?_|refine zB rfl ?_|refine zC ?_|refine zD ?_|refine zE rfl ?_|refine zF ?_|refine zG ?_|refine zH ?_|refine zI ?_|refine zJ ?_|refine zK ?_|refine zL rfl ?_|refine zN rfl ?_)
        exact wp_ret ⟨rfl, rfl, H.grows⟩
end Go.Abs.Tsk
namespace Go.Abs.Tsk
open Go.Proofs
set_option maxRecDepth 100000
section
variable {M : Mach} {B0 S : AH} {W : List Nat} {own : List Own} {ro : List Fct} {Q : Post}
/-- a range over a function: Done says how it ended -/
theorem wp_rngX (H : Cx B0 W S own ro) {m : Nat} {f : AV} {body : List AV → AC} {kk : AC} {outs : List AV} (hf : ∀ i, f ≠ .yd i) (Done : Option Tag → AH → Prop)
    (hc : ∀ l S1, Cx B0 W S1 (.obj l (.loop .ready none m body) :: own) ro → wpC M f [.yd l] S1 fun _ S' => ∃ st p m' b', S'.get l = some (.loop st p m' b') ∧ st ≠ .busy ∧ ∀ S2, S2.next = S'.next → (∀ j, j ≠ l → S2.get j = S'.get j) → Done p S2)
    (h : ∀ S2, Done none S2 → wp M kk S2 Q) (h' : ∀ t S2, Done (some t) S2 → Q t outs S2) : wp M (.rng m f body kk outs) S Q := by
  refine wp_rng hf (wpC_mono (hc S.next _ (H.addOwn (Grows.new S _) (get_new_same _ _) ?_)) fun v S' ⟨st, p, m', b', h1, h2, h3⟩ => ⟨st, p, m', b', h1, h2, ?_⟩)
  · intro j hj
    simp only [Own.ids, List.mem_singleton] at hj
    subst hj
    exact ⟨Nat.le_refl _, by simp⟩
  · have key := h3 (S'.set S.next (.loop .exhausted p m' b')) rfl fun j hj => by rw [AH.get_set, if_neg hj]
    cases p with
    | none => exact h _ key
    | some t => exact h' t _ key
/-- a round, however it ends -/
theorem wpC_ydX (H : Cx B0 W S own ro) (n : Nat) {l m : Nat} {args : List AV} {body : List AV → AC} {R : AV → AH → Prop} (hm : own[n]? = some (.obj l (.loop .ready none m body))) (hl : args.length = m)
    (h : wp M (body (.yd l :: args)) S fun t _ S' => ∃ own' ro', Cx B0 W S' own' ro' ∧ own'[n]? = some (.obj l (.loop .busy none m body)) ∧
      ((t = .normal ∧ ∀ S2, Cx B0 W S2 (own'.set n (.obj l (.loop .ready none m body))) ro' → R (B true) S2) ∨ (t ≠ .normal ∧ ∀ S2, Cx B0 W S2 (own'.set n (.obj l (.loop .done (some t) m body))) ro' → R (B false) S2))) :
    wpC M (.yd l) args S R := by
  refine wpC_yd (H.oh _ (List.mem_of_getElem? hm)) hl (wp_mono h fun t vs S' q => ?_)
  obtain ⟨own', ro', H', hm', hR⟩ := q
  refine ⟨none, m, body, H'.oh _ (List.mem_of_getElem? hm'), ?_⟩
  rcases hR with ⟨rfl, hR⟩ | ⟨ht, hR⟩
  · exact hR _ (H'.setOb hm' _)
  · cases t with
    | normal => exact absurd rfl ht
    | _ => exact hR _ (H'.setOb hm' _)
end
theorem times41 {S : AH} {f e n : Int} {B0 : AH} {W : List Nat} {own : List Own} {ro : List Fct} {Q : Post} {k : AV → AC} (H : Cx B0 W S own ro)
    (h : ∀ pn pc S1, Cx B0 W S1 own (.pt pn 0 [I n] :: .pt pc 0 [I f, I e] :: ro) → wp EM (k (.fn (.func 156) [] [.ptr pn 0, .ptr pc 0])) S1 Q) : wp EM (.call (.fn (.func 133) [] []) [cl f e, I n] k) S Q := by
  refine wp_call (wpC_fn (b := Try.a133) rfl rfl ?_)
  unfold Try.a133
  refine wp_box H rfl fun pd S1 H => ?_
  refine wp_box H rfl fun ph S2 H => ?_
  exact wp_ret ⟨rfl, h ph pd S2 H⟩
/-- the iterator, one time behind the other -/
theorem iter_ok {S : AH} {pn pc l : Nat} {f e n : Int} (hT : TOk f e) (h0 : 0 ≤ n) (h1 : n ≤ many f e) (J : Int → AH → Prop) (JF : AH → Prop)
    (hJ : ∀ i S, J i S → ∃ B W own, Cx B W S own [.pt pn 0 [I n], .pt pc 0 [I f, I e]]) (hg : ∀ i S S', J i S → Grows S S' → J i S')
    (hy : ∀ i S, n ≤ i → i < many f e → J i S → wpC EM (.yd l) [I (f + i * e)] S fun v S' => (v = B true ∧ J (i + 1) S') ∨ (v = B false ∧ JF S')) (hn : J n S) :
    wpC EM (.fn (.func 156) [] [.ptr pn 0, .ptr pc 0]) [.yd l] S fun _ S' => J (many f e) S' ∨ JF S' := by
  refine wpC_fn (b := Try.a156) rfl rfl ?_
  unfold Try.a156
  have hb := many_bd hT
  have ent : ∀ i S, J i S → Cx S [] S [] [.pt pn 0 [I n], .pt pc 0 [I f, I e]] := by
    intro i S hJi
    obtain ⟨B, W, own, H⟩ := hJ i S hJi
    exact Cx.enter fun φ hφ => ⟨H.rh φ hφ, fun id hid => (H.ri φ hφ id hid).1⟩
  refine wp_load0 (ent n S hn) (cs := [I n]) (by repeat (first | exact List.Mem.head _ | apply List.Mem.tail)) rfl ?_
  refine wp_bind (wp_loop (wpL_for (many f e - n).toNat (fun i vs S1 => vs = [I (n + (i : Int))] ∧ J (n + (i : Int)) S1) ?_ ?_ ⟨by simp, by simpa using hn⟩))
  · rintro i vs S1 hlt ⟨rfl, hJi⟩
    have H := ent _ S1 hJi
    refine wp_loada H (cs := [I f, I e]) (by repeat (first | exact List.Mem.head _ | apply List.Mem.tail)) (Nat.le_of_ble_eq_true rfl) ?_
    refine wp_callV H (many_ok hT) fun S2 H => ?_
    refine wp_lss_t (by omega) ?_
    repeat (first|refine zA ?_|refine zB rfl ?_|refine zC ?_|refine zD ?_|refine zE rfl ?_|refine zF ?_|refine zG ?_|refine zH ?_|refine zI ?_|refine zJ ?_|refine zK ?_|refine zL rfl ?_|refine zN rfl ?_)
    refine wp_bind ?_
    have hbd := time_bd hT (n := n + (i : Int)) (by omega) (by omega)
    have hf0 := hT.f0
    have hf1 := hT.f1
    repeat (first|refine zA ?_|refine zB rfl ?_|refine zC ?_|refine zD ?_|refine zE rfl ?_|refine zF ?_|refine zG ?_|refine zH ?_|refine zI ?_|refine zJ ?_|refine zK ?_|refine zL rfl ?_|refine zN rfl ?_)
    refine wp_load1 H (cs := [I f, I e]) (by repeat (first | exact List.Mem.head _ | apply List.Mem.tail)) rfl ?_
    repeat (first|refine zA ?_|refine zB rfl ?_|refine zC ?_|refine zD ?_|refine zE rfl ?_|refine zF ?_|refine zG ?_|refine zH ?_|refine zI ?_|refine zJ ?_|refine zK ?_|refine zL rfl ?_|refine zN rfl ?_)
    refine wp_load1 H (cs := [I f, I e]) (by repeat (first | exact List.Mem.head _ | apply List.Mem.tail)) rfl ?_
    refine wp_mul (c := (n + (i : Int)) * e) (wrap64 (by omega) (by omega)) ?_
    refine wp_add64 (by omega) (by omega) ?_
    refine wp_call (wpC_mono (hy (n + (i : Int)) S2 (by omega) (by omega) (hg _ _ _ hJi H.grows)) fun r S3 hr => ?_)
    rcases hr with ⟨rfl, hJ'⟩ | ⟨rfl, hF⟩
    · refine wp_not ?_
      repeat (first|refine zA ?_|refine zB rfl ?_|refine zC ?_|refine zD ?_|refine zE rfl ?_|refine zF ?_|refine zG ?_|refine zH ?_|refine zI ?_|refine zJ ?_|refine zK ?_|refine zL rfl ?_|refine zN rfl ?_)
      refine wp_ret ?_
      show wp EM _ _ _
      refine wp_add64 (by omega) (by omega) (wp_ret (.inl ⟨rfl, ?_⟩))
      rw [Int.natCast_add, show ((1 : Nat) : Int) = 1 from rfl, ← Int.add_assoc]
      exact ⟨rfl, hJ'⟩
    · refine wp_not ?_
      repeat (first|refine zA ?_|refine zB rfl ?_|refine zC ?_|refine zD ?_|refine zE rfl ?_|refine zF ?_|refine zG ?_|refine zH ?_|refine zI ?_|refine zJ ?_|refine zK ?_|refine zL rfl ?_|refine zN rfl ?_)
      exact wp_ret (.inr ⟨by simp, rfl, .inr hF⟩)
  · rintro vs S1 ⟨rfl, hJi⟩
    have en : n + ((many f e - n).toNat : Int) = many f e := by omega
    rw [en] at hJi ⊢
    have H := ent _ S1 hJi
    refine wp_loada H (cs := [I f, I e]) (by repeat (first | exact List.Mem.head _ | apply List.Mem.tail)) (Nat.le_of_ble_eq_true rfl) ?_
    refine wp_callV H (many_ok hT) fun S2 H => ?_
    refine wp_lss_f (by omega) ?_
    repeat (first|refine zA ?_|refine zB rfl ?_|refine zC ?_|refine zD ?_|refine zE rfl ?_|refine zF ?_|refine zG ?_|refine zH ?_|refine zI ?_|refine zJ ?_|refine zK ?_|refine zL rfl ?_|refine zN rfl ?_)
    exact wp_ret ⟨by simp, wp_ret ⟨rfl, .inl (hg _ _ _ hJi H.grows)⟩⟩

theorem next_ok {S : AH} {x : Tk} {now : Int} : wpC EM (.fn (.func 101) [] []) [.agg x.cs, I now] S fun r S' => r = tnext x now ∧ Grows S S' := by
  refine wpC_fn (b := Try.a101) rfl rfl ?_
  have H : Cx S [] S [] [] := Cx.enter (by simp)
  unfold Try.a101 tnext
  refine wp_fin ?_
  refine wp_box H rfl fun b0 S1 H => ?_
  refine wp_alloc H fun r1 S2 H => ?_
  refine wp_alloc H fun r2 S3 H => ?_
  refine wp_loada H (cs := x.cs) (by repeat (first | exact List.Mem.head _ | apply List.Mem.tail)) (Nat.le_of_ble_eq_true rfl) ?_
  refine wp_callV H of_ok fun S4 H => ?_
  repeat (first|refine zA ?_|refine zB rfl ?_|refine zC ?_|refine zD ?_|refine zE rfl ?_|refine zF ?_|refine zG ?_|refine zH ?_|refine zI ?_|refine zJ ?_|refine zK ?_|refine zL rfl ?_|refine zN rfl ?_)
  refine wp_alloc H fun o S5 H => ?_
  refine wp_store (v := cl x.first x.every) H 0 rfl rfl rfl (Nat.le_of_ble_eq_true rfl) fun S6 H => ?_
  replace H : Cx S [] S6 [.obj r2 (.row [B false]), .obj r1 (.row [I 0])] [.pt o 0 [I x.first, I x.every], .pt b0 0 x.cs] := H.freeze (i := 0) (c := [I x.first, I x.every]) rfl
  refine wp_bind ?_
  have none_ : ∀ S7, Cx S [] S7 [.obj r2 (.row [B false]), .obj r1 (.row [I 0])] [] → wp EM (.op (.store 1 (.ptr r1 0) (I 0)) fun v11 => .op (.store 1 (.ptr r2 0) (B false)) fun v12 => .ret .ret [.ptr r1 0, .ptr r2 0]) S7 fun t vs S' => (t = .normal ∨ t = .ret) ∧ wp EM (.op (.load 1 false (nth vs 0)) fun v2 => .op (.load 1 false (nth vs 1)) fun v3 => .ret .ret [v2, v3]) S' fun t vs S' => t = .ret ∧ oneOf vs = .tup [I 0, B false] ∧ Grows S S' := by
    intro S7 H
    refine wp_store H 1 rfl rfl rfl (Nat.le_of_ble_eq_true rfl) fun S8 H => ?_
    refine wp_store H 0 rfl rfl rfl (Nat.le_of_ble_eq_true rfl) fun S9 H => ?_
    refine wp_ret ⟨.inr rfl, ?_⟩
    refine wp_loado (v := I 0) H 1 rfl rfl ?_
    refine wp_loado (v := B false) H 0 rfl rfl ?_
    exact wp_ret ⟨rfl, rfl, H.grows⟩
  show wp EM (.ite (B (timed x)) _ _) S6 _
  cases ht : timed x with
  | false =>
    repeat (first|refine zA ?_|refine zB rfl ?_|refine zC ?_|refine zD ?_|refine zE rfl ?_|refine zF ?_|refine zG ?_|refine zH ?_|refine zI ?_|refine zJ ?_|refine zK ?_|refine zL rfl ?_|refine zN rfl ?_)
    rw [if_neg (by simp)]
    refine wp_ret ?_
    exact none_ S6 (H.dropRo (by simp))
  | true =>
    have hT := timed_ok ht
    have hb := many_bd hT
    have hs := since_bd (now := now) hT
    repeat (first|refine zA ?_|refine zB rfl ?_|refine zC ?_|refine zD ?_|refine zE rfl ?_|refine zF ?_|refine zG ?_|refine zH ?_|refine zI ?_|refine zJ ?_|refine zK ?_|refine zL rfl ?_|refine zN rfl ?_)
    refine wp_loada H (cs := [I x.first, I x.every]) (by repeat (first | exact List.Mem.head _ | apply List.Mem.tail)) (Nat.le_of_ble_eq_true rfl) ?_
    refine wp_loada H (cs := [I x.first, I x.every]) (by repeat (first | exact List.Mem.head _ | apply List.Mem.tail)) (Nat.le_of_ble_eq_true rfl) ?_
    refine wp_callV H (since_ok hT) fun S7 H => ?_
    refine wp_chkn (j := 0) (cs := [I x.first, I x.every]) H (by repeat (first | exact List.Mem.head _ | apply List.Mem.tail)) (Nat.le_of_ble_eq_true rfl) rfl cl_beq ?_
    refine times41 H fun pn pc S8 H => ?_
    refine wp_bind ?_
    generalize hs' : since x.first x.every now = s at hs H ⊢
    refine wp_rngX (Done := fun p S' => match p with
      | none => many x.first x.every ≤ s ∧ Cx S [] S' [.obj r2 (.row [B false]), .obj r1 (.row [I 0])] []
      | some t => t = .ret ∧ s < many x.first x.every ∧ Cx S [] S' [.obj r2 (.row [B true]), .obj r1 (.row [I (x.first + s * x.every)])] []) H (by intro i e; cases e) ?_ ?_ ?_
    · intro l S9 H
      refine wpC_mono (iter_ok hT hs.1 hs.2 (fun i S' => i = s ∧ Cx S [] S' [.obj l (.loop .ready none 1 fun v14 => .start (nth v14 0) (.bind (Try.a101x0 (.ptr r1 0) (.ptr r2 0) v14) (some 1) (fun v15 => .ret .normal []) (fun v15 => []))), .obj r2 (.row [B false]), .obj r1 (.row [I 0])] [.pt pn 0 [I s], .pt pc 0 [I x.first, I x.every]])
        (fun S' => s < many x.first x.every ∧ Cx S [] S' [.obj l (.loop .done (some .ret) 1 fun v14 => .start (nth v14 0) (.bind (Try.a101x0 (.ptr r1 0) (.ptr r2 0) v14) (some 1) (fun v15 => .ret .normal []) (fun v15 => []))), .obj r2 (.row [B true]), .obj r1 (.row [I (x.first + s * x.every)])] []) ?_ ?_ ?_ ⟨rfl, H.dropRo (by
          intro φ hφ
          rcases List.mem_cons.1 hφ with rfl | hφ
          · exact List.Mem.head _
          · exact List.mem_of_mem_take (i := 2) (List.Mem.tail _ hφ))⟩) fun r S' hr => ?_
      · rintro i S' ⟨rfl, H⟩
        exact ⟨_, _, _, H⟩
      · rintro i S' S'' ⟨rfl, H⟩ hg
        exact ⟨rfl, H.grow hg⟩
      · rintro i S' h1 h2 ⟨rfl, H⟩
        refine wpC_ydX H 0 rfl rfl ?_
        refine wp_startO H 0 rfl fun S10 H => ?_
        refine wp_bind ?_
        unfold Try.a101x0
        refine wp_store (v := I (x.first + i * x.every)) H 2 rfl rfl rfl (Nat.le_of_ble_eq_true rfl) fun S11 H => ?_
        refine wp_store H 1 rfl rfl rfl (Nat.le_of_ble_eq_true rfl) fun S12 H => ?_
        refine wp_ret ?_
        exact ⟨_, _, H, rfl, .inr ⟨by simp, fun S13 H => .inr ⟨rfl, h2, H.dropRo (by simp)⟩⟩⟩
      · rcases hr with ⟨hm, H⟩ | ⟨hm, H⟩
        · exact ⟨_, _, _, _, H.oh _ (List.Mem.head _), by simp, fun S2 e1 e2 => ⟨by omega, (H.other (n := 0) rfl e1 e2).dropRo (by simp)⟩⟩
        · exact ⟨_, _, _, _, H.oh _ (List.Mem.head _), by simp, fun S2 e1 e2 => ⟨rfl, hm, (H.other (n := 0) rfl e1 e2).dropRo (by simp)⟩⟩
    · rintro S9 ⟨hm, H⟩
      refine wp_ret ?_
      show wp EM _ _ _
      refine wp_ret ?_
      rw [if_neg (by omega)]
      exact none_ S9 H
    · rintro t S9 ⟨rfl, hm, H⟩
      rw [if_pos ⟨rfl, hm⟩]
      refine ⟨.inr rfl, ?_⟩
      refine wp_loado (v := I (x.first + s * x.every)) H 1 rfl rfl ?_
      refine wp_loado (v := B true) H 0 rfl rfl ?_
      exact wp_ret ⟨rfl, rfl, H.grows⟩
end Go.Abs.Tsk
namespace Go.Abs.Tsk
open Go.Proofs
set_option maxRecDepth 100000
theorem slOk_odd {S : AH} {v : AV} {es : Nat} {L : List (List AV)} (h : slOk S v es L) : odd v = false ∧ v.cells = [v] := by
  rcases h with ⟨rfl, _⟩ | ⟨id, off, c, h0, _⟩
  · exact ⟨rfl, rfl⟩
  · rcases h0 with ⟨_, _, _, rfl⟩ | ⟨_, _, _, rfl⟩ <;> exact ⟨rfl, rfl⟩
/-- times from a number on -/
def tl (f e s : Int) (n : Nat) : List Int := (List.range n).map fun (k : Nat) => f + (s + (k : Int)) * e
theorem tl_len {f e s : Int} {n : Nat} : (tl f e s n).length = n := by simp [tl]
theorem tl_succ {f e s : Int} {n : Nat} : tl f e s (n + 1) = tl f e s n ++ [f + (s + (n : Int)) * e] := by unfold tl; rw [List.range_succ, List.map_append]; rfl
theorem ints_snoc (l : List Int) (n : Int) : ints (l ++ [n]) = ints l ++ [[I n]] := by simp [ints]
def cnum (x : Tk) (a b most : Int) : Nat := (min (min (count x a b) most) 4096).toNat
def ctimes (x : Tk) (a b most : Int) : List Int := tl x.first x.every (since x.first x.every a) (cnum x a b most)
theorem ctimes_len (x : Tk) (a b most : Int) : (ctimes x a b most).length ≤ 4096 := by unfold ctimes; rw [tl_len]; unfold cnum; omega
theorem since_mono {f e a b : Int} (h : TOk f e) (hab : a ≤ b) : since f e a ≤ since f e b := by
  rw [since_eq h, since_eq h]
  have hmin : min a (1099511627776 + 1) ≤ min b (1099511627776 + 1) := by omega
  generalize min a (1099511627776 + 1) = a at hmin
  generalize min b (1099511627776 + 1) = b at hmin
  have : num f e a ≤ num f e b := by
    by_cases ha : a ≤ f
    · have := (num_bd (f := f) (now := b) h.e0).1
      unfold num at *; rw [if_pos ha]; exact this
    · rw [num_ceil h.e0 (by omega), num_ceil h.e0 (by omega)]
      exact Int.ediv_le_ediv (by have := h.e0; omega) (by omega)
  omega
theorem time_lt {f e b i : Int} (h : TOk f e) (h0 : 0 ≤ i) (h1 : i < many f e) : f + i * e < b ↔ i < since f e b := by
  have hbd := time_bd h h0 h1
  obtain ⟨f0, f1, e0, e1⟩ := h
  unfold since
  split
  · constructor <;> intro <;> omega
  · split
    · constructor <;> intro <;> omega
    · rw [num_ceil e0 (by omega)]
      have key : i < (b - f + e - 1) / e ↔ i * e < b - f := by
        have : i + 1 ≤ (b - f + e - 1) / e ↔ (i + 1) * e ≤ b - f + e - 1 := Int.le_ediv_iff_mul_le (by omega : 0 < e)
        have e2 : (i + 1) * e = i * e + e := by rw [Int.add_mul]; omega
        rw [e2] at this
        constructor
        · intro hh; have := this.1 (by omega); omega
        · intro hh; have := this.2 (by omega); omega
      constructor
      · intro hh; have := key.2 (by omega); omega
      · intro hh; have := key.1 (by omega); omega

end Go.Abs.Tsk
namespace Go.Abs.Tsk
open Go.Proofs
set_option maxRecDepth 100000
/-! tables -/
def allN (l : List Tk) (a b : Int) : Nat → Int
  | 0 => 0
  | i + 1 => allN l a b i + (match l[i]? with | some x => count x a b | none => 0)
theorem count_bd (x : Tk) (a b : Int) : 0 ≤ count x a b ∧ count x a b ≤ 1099511627777 := by
  unfold count
  split
  · rename_i h
    have hT := timed_ok h.1
    have := since_mono hT (show a ≤ b by omega)
    have := since_bd (now := a) hT
    have := since_bd (now := b) hT
    have := many_bd hT
    omega
  · omega
theorem allN_bd (l : List Tk) (a b : Int) : ∀ i : Nat, 0 ≤ allN l a b i ∧ allN l a b i ≤ 1099511627777 * i
  | 0 => ⟨Int.le_refl _, Int.le_refl _⟩
  | i + 1 => by
    have := allN_bd l a b i
    unfold allN
    split
    · rename_i x _
      have := count_bd x a b
      omega
    · omega
theorem allN_succ {l : List Tk} {a b : Int} {i : Nat} (hi : i < l.length) : allN l a b (i + 1) = allN l a b i + count l[i] a b := by
  conv => lhs; unfold allN
  rw [List.getElem?_eq_getElem hi]
def all (l : List Tk) (a b : Int) : Int := if tchk l = 0 then allN l a b l.length else 0
theorem tchk_len {l : List Tk} (h : tchk l = 0) : l.length ≤ 32 := by
  unfold tchk at h
  split at h
  · cases h
  · omega
def isNow (x : Tk) (now : Int) : Bool := decide (timed x = true ∧ since x.first x.every now < many x.first x.every ∧ x.first + since x.first x.every now * x.every = now)
def dueN (l : List Tk) (now : Int) : Nat → List Int
  | 0 => []
  | i + 1 => match l[i]? with
    | some x => if isNow x now = true then dueN l now i ++ [(i : Int)] else dueN l now i
    | none => dueN l now i
theorem dueN_succ {l : List Tk} {now : Int} {i : Nat} (hi : i < l.length) : dueN l now (i + 1) = if isNow l[i] now = true then dueN l now i ++ [(i : Int)] else dueN l now i := by
  conv => lhs; unfold dueN
  rw [List.getElem?_eq_getElem hi]
theorem dueN_len (l : List Tk) (now : Int) : ∀ i : Nat, (dueN l now i).length ≤ i
  | 0 => Nat.le_refl _
  | i + 1 => by
    have := dueN_len l now i
    unfold dueN
    split
    · split
      · simp; omega
      · omega
    · omega
def due (l : List Tk) (now : Int) : List Int := if tchk l = 0 then dueN l now l.length else []
theorem due_len (l : List Tk) (now : Int) : (due l now).length ≤ 32 := by
  unfold due
  split
  · rename_i h
    have := tchk_len h
    have := dueN_len l now l.length
    omega
  · simp
/-! homes -/
def home (t cores : Int) : Int := if t < 0 ∨ cores < 1 ∨ 64 < cores then -1 else t.tmod cores
end Go.Abs.Tsk
namespace Go.Abs
open Go.Proofs
set_option maxRecDepth 100000
set_option linter.unusedVariables false
section
variable {B0 S : AH} {W : List Nat} {own E R : List Own} {ro : List Fct} {w : Nat} {x : Wl} {blk : List Own}
theorem Wl.Ok.empty {now : Nat} (h : now ≤ 1099511627776) : Wl.Ok ⟨now, []⟩ := ⟨h, List.Pairwise.nil, List.Pairwise.nil, fun _ h => (by cases h), fun _ h => (by cases h), fun _ h => (by cases h)⟩
theorem mapOk_nil : MapOk [] [] := ⟨List.Pairwise.nil, fun _ => rfl⟩
theorem Cx.newW {m now : Nat} (H : Cx B0 W S (.obj w (.row (wrow now m fun _ => Ns)) :: .obj m (.map (ment [])) :: own) ro) :
    Cx B0 W S (wOwn w m (wrow now m fun _ => Ns) [] (fun _ => Ns) (fun _ => []) ++ own) ro := by
  have H2 := H.addNils 2 176
  refine H2.perm ?_
  unfold wOwn
  have e : ((List.range 176).map fun k => Own.sl Ns 2 (fis [])) = List.replicate 176 (.sl Ns 2 []) := range_const 176 _
  rw [e]
  generalize List.replicate 176 (Own.sl Ns 2 []) = N
  have := List.perm_append_comm_assoc N [Own.obj w (.row (wrow now m fun _ => Ns)), .obj m (.map (ment []))] own
  exact this
theorem new_ok (H : Cx B0 W S own ro) {now : Int} : wpC EM (.fn (.func 8) [] []) [I now] S fun r S' =>
    ((0 ≤ now ∧ now ≤ 1099511627776) ∧ ∃ w blk, r = .tup [.ptr w 0, I 0] ∧ WRep w ⟨now.toNat, []⟩ blk ∧ Cx B0 W S' (blk ++ own) ro) ∨ (¬ (0 ≤ now ∧ now ≤ 1099511627776) ∧ r = .tup [Np, I 3] ∧ Cx B0 W S' own ro) := by
  refine wpC_fn (b := Try.a8) rfl rfl ?_
  unfold Try.a8
  refine wp_callV H time_ok fun S1 H => ?_
  by_cases ht : 0 ≤ now ∧ now ≤ 1099511627776
  · rw [decide_eq_true ht]
    refine wp_op (v := B false) rfl ?_
    repeat (first|refine zA ?_|refine zB rfl ?_|refine zC ?_|refine zD ?_|refine zE rfl ?_|refine zF ?_|refine zG ?_|refine zH ?_|refine zI ?_|refine zJ ?_|refine zK ?_|refine zL rfl ?_|refine zN rfl ?_)
    obtain ⟨n, rfl⟩ : ∃ n : Nat, now = (n : Int) := ⟨now.toNat, by omega⟩
    refine wp_mkmap H fun m S2 H => ?_
    refine wp_op (v := .agg (wrow n m fun _ => Ns)) (by rfl) ?_
    unfold Try.a8x0
    refine wp_boxOwn H rfl fun w S3 H => ?_
    have H : Cx B0 W S3 (.obj w (.row (wrow n m fun _ => Ns)) :: .obj m (.map (ment [])) :: own) ro := H
    exact wp_ret ⟨rfl, .inl ⟨ht, w, _, rfl, ⟨Wl.Ok.empty (by omega), m, fun _ => Ns, [], mapOk_nil, rfl⟩, H.newW⟩⟩
  · rw [decide_eq_false ht]
    refine wp_op (v := B true) rfl ?_
    repeat (first|refine zA ?_|refine zB rfl ?_|refine zC ?_|refine zD ?_|refine zE rfl ?_|refine zF ?_|refine zG ?_|refine zH ?_|refine zI ?_|refine zJ ?_|refine zK ?_|refine zL rfl ?_|refine zN rfl ?_)
    exact wp_ret ⟨rfl, .inr ⟨ht, rfl, H⟩⟩
theorem ins_last {f : Fi} {D : List Fi} (h : ∀ g ∈ D, g.lt f) : ins f D = D ++ [f] := by
  induction D with
  | nil => rfl
  | cons g r ih =>
    unfold ins
    rw [if_neg (Fi.lt_asymm (h g (by simp))), ih fun a ha => h a (by simp [ha])]
    rfl
theorem Wl.Ok.pre {x : Wl} (h : x.Ok) {D T : List Fi} (e : x.L = D ++ T) : Wl.Ok ⟨x.now, D⟩ where
  clk := h.clk
  ord := h.ord.sublist (e ▸ List.sublist_append_left _ _)
  nd := h.nd.sublist ((e ▸ List.sublist_append_left D T).map _)
  ge := fun f hf => h.ge f (e ▸ List.mem_append_left _ hf)
  le := fun f hf => h.le f (e ▸ List.mem_append_left _ hf)
  id := fun f hf => h.id f (e ▸ List.mem_append_left _ hf)
theorem copyW_ok (h : WRep w x blk) (H : Cx B0 W S (E ++ (blk ++ R)) ro) :
    wpC EM (.fn (.func 12) [] []) [.ptr w 0] S fun r S' => ∃ w' blk', r = .ptr w' 0 ∧ WRep w' x blk' ∧ Cx B0 W S' (blk' ++ (E ++ (blk ++ R))) ro := by
  refine wpC_fn (b := Try.a12) rfl rfl ?_
  unfold Try.a12
  refine wp_call (wpC_mono (none_ok h H) fun v S1 ⟨hv, H⟩ => ?_)
  subst hv
  obtain ⟨ho, m, vs, Mp, hM, rfl⟩ := h
  repeat (first|refine zA ?_|refine zB rfl ?_|refine zC ?_|refine zD ?_|refine zE rfl ?_|refine zF ?_|refine zG ?_|refine zH ?_|refine zI ?_|refine zJ ?_|refine zK ?_|refine zL rfl ?_|refine zN rfl ?_)
  refine wp_row H _ wO_row (v := I x.now) rfl ?_
  unfold Try.a12x3
  refine wp_call (wpC_mono (new_ok H) fun r S2 q => ?_)
  have hclk := ho.clk
  rcases q with ⟨_, w', blk', rfl, h', H⟩ | ⟨hn, _⟩
  · repeat (first|refine zA ?_|refine zB rfl ?_|refine zC ?_|refine zD ?_|refine zE rfl ?_|refine zF ?_|refine zG ?_|refine zH ?_|refine zI ?_|refine zJ ?_|refine zK ?_|refine zL rfl ?_|refine zN rfl ?_)
    refine wp_alloc H fun p S3 H => ?_
    refine wp_set1 (c := [Np]) (j := 0) (v := .ptr w' 0) H 0 rfl (by simp) rfl rfl fun S4 H => ?_
    refine wp_call (wpC_fn (b := Try.a42) rfl rfl ?_)
    unfold Try.a42
    refine wp_box (x := .ptr w 0) H rfl fun b1 S5 H => ?_
    refine wp_ret ⟨rfl, ?_⟩
    have hD := all_drives (B0 := B0) (W := W) (ro := .pt b1 0 [.ptr w 0] :: ro) (bw := b1) (w := w) (m := m) (now := x.now) (Mp := Mp) (vs := vs) (fs := x.slot) (by repeat (first | exact List.Mem.head _ | apply List.Mem.tail)) ho.slot_len
    rw [all_aggs, allL_ok ho] at hD
    unfold Try.a12x2
    let own0 := E ++ (wOwn w m (wrow x.now m vs) Mp vs x.slot ++ R)
    refine wp_bind (wp_rngD hD (fun y own h => h.cons y) (fun i h => by cases h) (fun d own => ∃ D T blk', d = aggs D ∧ x.L = D ++ T ∧ WRep w' ⟨x.now, D⟩ blk' ∧ own = .obj p (.row [.ptr w' 0]) :: (blk' ++ own0)) (fun _ _ => False)
      (fun d own ⟨D, T, blk', _, _, _, e⟩ => by rw [e]; exact ⟨.obj p (.row [.ptr w' 0]) :: (blk' ++ E), R, by simp [own0]⟩) ?_ (E := []) (own := .obj p (.row [.ptr w' 0]) :: (blk' ++ own0)) ⟨[], x.L, blk', rfl, rfl, h', rfl⟩ H ?_ ?_)
    · rintro l d e r hes E' own2 S6 ro2 hro ⟨D, T, blk2, rfl, hx, h2, rfl⟩ H2
      obtain ⟨D', f, L', hL, hd, rfl, rfl⟩ := aggs_split hes
      have hDD := aggs_inj hd
      subst hDD
      unfold Try.a12x1
      refine wp_round2 (x := I (f.id : Int)) (y := I (f.tm : Int)) H2 fun q S7 H7 => ?_
      refine wp_bind ?_
      unfold Try.a12x0
      refine wp_row (c := [.ptr w' 0]) (j := 0) H7 (E'.length + 1) (app_get rfl) rfl ?_
      refine wp_loada (n := 2) (id := q) (off := 0) (cs := f.cs) H7 (by repeat (first | exact List.Mem.head _ | apply List.Mem.tail)) (Nat.le_refl _) ?_
      have hf : f ∈ x.L := by rw [hL]; simp
      have hord := ho.ord
      rw [hL] at hord
      have hlt : ∀ g ∈ D, g.lt f := fun g hg => (List.pairwise_append.1 hord).2.2 g hg f (by simp)
      have hnd : ∀ g ∈ D, g.id ≠ f.id := fun g hg e => by
        have := ho.inj (by rw [hL]; simp [hg]) hf e
        exact Fi.lt_irrefl f (this ▸ hlt g hg)
      have e8 : E' ++ Own.obj l (.loop .busy none 1 fun v11 => Try.a12x1 (.ptr p 0) v11) :: .obj p (.row [.ptr w' 0]) :: (blk2 ++ own0) = (E' ++ [Own.obj l (.loop .busy none 1 fun v11 => Try.a12x1 (.ptr p 0) v11), .obj p (.row [.ptr w' 0])]) ++ (blk2 ++ own0) := by simp
      have H8 : Cx B0 W S7 ((E' ++ [Own.obj l (.loop .busy none 1 fun v11 => Try.a12x1 (.ptr p 0) v11), .obj p (.row [.ptr w' 0])]) ++ (blk2 ++ own0)) (.pt q 0 [I (f.id : Int), I (f.tm : Int)] :: ro2) := e8 ▸ H7
      refine wp_call (wpC_mono (putW (f := f) h2 H8 hnd (ho.ge f hf) (ho.le f hf) (ho.id f hf)) fun r S9 ⟨blk3, h3, H9⟩ => ?_)
      refine wp_ret ?_
      show wp EM _ _ _
      have H10 : Cx B0 W S9 (E' ++ Own.obj l (.loop .busy none 1 fun v11 => Try.a12x1 (.ptr p 0) v11) :: .obj p (.row [.ptr w' 0]) :: (blk3 ++ own0)) (.pt q 0 [I (f.id : Int), I (f.tm : Int)] :: ro2) := by
        rw [List.append_assoc] at H9; exact H9
      refine wp_ret ⟨_, H10.tl, .inl ⟨rfl, D ++ [f], L', blk3, by simp [aggs], by rw [hL]; simp, ?_, rfl⟩⟩
      rw [← ins_last hlt]; exact h3
    · rintro S6 own2 ⟨D, T, blk2, hd, hx, h2, rfl⟩ H6
      have hDD := aggs_inj hd
      subst hDD
      refine wp_ret ?_
      show wp EM _ _ _
      refine wp_row (c := [.ptr w' 0]) (j := 0) H6 0 rfl rfl ?_
      refine wp_ret ⟨rfl, w', blk2, rfl, ?_, (H6.dropAt 0).tl⟩
      exact h2
    · intro t S6 own2 _ h
      cases h
  · exact absurd ⟨by omega, by omega⟩ hn
end
end Go.Abs
namespace Go.Abs
open Go.Proofs
set_option maxRecDepth 100000
set_option linter.unusedVariables false
open Tsk (Tk tks tchk tnext timed since many TOk)
/-- a task's next time -/
def nxt (x : Tk) (now : Int) : Option Nat := if timed x = true ∧ since x.first x.every now < many x.first x.every then some (x.first + since x.first x.every now * x.every).toNat else none
theorem nxt_ok (x : Tk) (now : Int) : (∃ t : Nat, nxt x now = some t ∧ tnext x now = .tup [I (t : Int), B true] ∧ now ≤ (t : Int) ∧ t ≤ 1099511627776) ∨ (nxt x now = none ∧ tnext x now = .tup [I 0, B false]) := by
  unfold nxt tnext
  by_cases h : timed x = true ∧ since x.first x.every now < many x.first x.every
  · rw [if_pos h, if_pos h]
    have hT := Tsk.timed_ok h.1
    have h0 := (Tsk.since_bd (now := now) hT).1
    have h1 := Tsk.time_bd hT h0 h.2
    have h2 := hT.f0
    have h3 : now ≤ x.first + since x.first x.every now * x.every := by
      have := Tsk.time_lt (b := now) hT h0 h.2
      omega
    refine .inl ⟨_, rfl, ?_, by omega, by omega⟩
    have : ((x.first + since x.first x.every now * x.every).toNat : Int) = x.first + since x.first x.every now * x.every := by omega
    rw [this]
  · rw [if_neg h, if_neg h]
    exact .inr ⟨rfl, rfl⟩
section
variable {B0 S : AH} {W : List Nat} {own E R : List Own} {ro : List Fct} {w : Nat} {x : Wl} {blk : List Own}
def loadN (x : Wl) (l : List Tk) : Nat → Wl
  | 0 => x
  | i + 1 => match l[i]? with
    | some t => (match nxt t x.now with
      | some a => (loadN x l i).put ⟨i, a⟩
      | none => loadN x l i)
    | none => loadN x l i
theorem loadN_now (x : Wl) (l : List Tk) : ∀ i, (loadN x l i).now = x.now
  | 0 => rfl
  | i + 1 => by
    unfold loadN
    split
    · split
      · exact loadN_now x l i
      · exact loadN_now x l i
    · exact loadN_now x l i
def loadX (x : Wl) (l : List Tk) : Wl := if tchk l = 0 then loadN x l l.length else x
theorem wp_tmp4 {M : Mach} {Q : Post} {k : AV → AC} (H : Cx B0 W S own ro) {a b c d : AV} (h : ∀ id S1, Cx B0 W S1 own (.pt id 0 [a, b, c, d] :: ro) → wp M (k (.ptr id 0)) S1 Q) : wp M (.op (.alloc [I 0, I 0, I 0, I 0]) fun p => .op (.store 4 p (.agg [a, b, c, d])) fun _ => k p) S Q := by
  refine wp_alloc H fun id S1 H1 => ?_
  refine wp_store H1 0 (c := [I 0, I 0, I 0, I 0]) rfl rfl rfl (by simp) fun S2 H2 => ?_
  have H2 : Cx B0 W S2 (.obj id (.row [a, b, c, d]) :: own) ro := H2
  exact h id S2 (H2.freeze (i := 0) rfl)
theorem load_ok {v : AV} {l : List Tk} (hv : Fct.sl v 4 (tks l) ∈ ro) (h : WRep w x blk) (H : Cx B0 W S (E ++ (blk ++ R)) ro) :
    wpC EM (.fn (.func 53) [] []) [.ptr w 0, v] S fun r S' => r = I (tchk l) ∧ ∃ blk', WRep w (loadX x l) blk' ∧ Cx B0 W S' (E ++ (blk' ++ R)) ro := by
  refine wpC_fn (b := Try.a53) rfl rfl ?_
  unfold Try.a53
  refine wp_call (wpC_mono (none_ok h H) fun u S1 ⟨hu, H⟩ => ?_)
  subst hu
  repeat (first|refine zA ?_|refine zB rfl ?_|refine zC ?_|refine zD ?_|refine zE rfl ?_|refine zF ?_|refine zG ?_|refine zH ?_|refine zI ?_|refine zJ ?_|refine zK ?_|refine zL rfl ?_|refine zN rfl ?_)
  refine wp_callV H (Tsk.check_ok (l := l) (H.roSl hv)) fun S2 H => ?_
  unfold loadX
  refine wp_neq (fun hne => ?_) (fun hz => ?_)
  · repeat (first|refine zA ?_|refine zB rfl ?_|refine zC ?_|refine zD ?_|refine zE rfl ?_|refine zF ?_|refine zG ?_|refine zH ?_|refine zI ?_|refine zJ ?_|refine zK ?_|refine zL rfl ?_|refine zN rfl ?_)
    rw [if_neg hne]
    exact wp_ret ⟨rfl, rfl, blk, h, H⟩
  · repeat (first|refine zA ?_|refine zB rfl ?_|refine zC ?_|refine zD ?_|refine zE rfl ?_|refine zF ?_|refine zG ?_|refine zH ?_|refine zI ?_|refine zJ ?_|refine zK ?_|refine zL rfl ?_|refine zN rfl ?_)
    rw [if_pos hz, hz]
    have hlen := Tsk.tchk_len hz
    unfold Try.a53x5
    refine wp_len H hv ?_
    rw [Tsk.tks_len]
    refine wp_bind (wp_loop (wpL_inv (fun k vs1 S1 => ∃ (i : Nat) (blk : List Own), vs1 = [I (i : Int)] ∧ i ≤ l.length ∧ k = l.length - i ∧ WRep w (loadN x l i) blk ∧ Cx B0 W S1 (E ++ (blk ++ R)) ro) ?_ l.length ⟨0, blk, rfl, by omega, by omega, h, H⟩))
    clear H h
    rintro k vs1 S1 ⟨i, blk, rfl, hi, rfl, h, H⟩
    unfold Try.a53x4
    refine wp_lss (fun hlt => ?_) (fun hge => ?_)
    · have hlt : i < l.length := by omega
      repeat (first|refine zA ?_|refine zB rfl ?_|refine zC ?_|refine zD ?_|refine zE rfl ?_|refine zF ?_|refine zG ?_|refine zH ?_|refine zI ?_|refine zJ ?_|refine zK ?_|refine zL rfl ?_|refine zN rfl ?_)
      refine wp_bind ?_
      unfold Try.a53x2
      refine wp_saddr (i := i) H hv (Tsk.tks_get hlt) fun q qo H1 => ?_
      refine wp_loada (n := 4) H1 (cs := l[i].cs) (by repeat (first | exact List.Mem.head _ | apply List.Mem.tail)) (Nat.le_refl _) ?_
      refine wp_tmp4 (a := I l[i].kind) (b := I l[i].prio) (c := I l[i].every) (d := I l[i].first) H1.tl fun p S2 H => ?_
      refine wp_loada (n := 4) H (id := p) (off := 0) (cs := l[i].cs) (by repeat (first | exact List.Mem.head _ | apply List.Mem.tail)) (Nat.le_refl _) ?_
      repeat (first|refine zA ?_|refine zB rfl ?_|refine zC ?_|refine zD ?_|refine zE rfl ?_|refine zF ?_|refine zG ?_|refine zH ?_|refine zI ?_|refine zJ ?_|refine zK ?_|refine zL rfl ?_|refine zN rfl ?_)
      have h0 := h
      obtain ⟨ho, m, vs, Mp, hM, rfl⟩ := h
      refine wp_row (j := 0) H _ wO_row (v := I (loadN x l i).now) rfl ?_
      rw [loadN_now]
      refine wp_callV H (Tsk.next_ok (x := l[i]) (now := x.now)) fun S3 H => ?_
      have e1 : loadN x l (i + 1) = match nxt l[i] x.now with | some a => (loadN x l i).put ⟨i, a⟩ | none => loadN x l i := by
        conv => lhs; unfold loadN
        rw [List.getElem?_eq_getElem hlt]
      rcases nxt_ok l[i] x.now with ⟨t, hn, ht, hge, hle⟩ | ⟨hn, ht⟩
      · rw [ht]
        repeat (first|refine zA ?_|refine zB rfl ?_|refine zC ?_|refine zD ?_|refine zE rfl ?_|refine zF ?_|refine zG ?_|refine zH ?_|refine zI ?_|refine zJ ?_|refine zK ?_|refine zL rfl ?_|refine zN rfl ?_)
        unfold Try.a53x0
        refine wp_bind (wp_ite_t ?_)
        refine wp_call (wpC_mono (set_ok (id := (i : Int)) (at' := (t : Int)) h0 H.tl) fun r S4 ⟨_, blk2, h2, H2⟩ => ?_)
        refine wp_ret ?_
        show wp EM _ _ _
        refine wp_ret ?_
        show wp EM _ _ _
        unfold Try.a53x3
        refine wp_add64 (by omega) (by omega) (wp_ret (.inl ⟨rfl, l.length - (i + 1), by omega, i + 1, blk2, rfl, by omega, rfl, ?_, H2⟩))
        rw [e1, hn]
        have hz2 : setE (loadN x l i) (i : Int) (t : Int) = 0 := by
          unfold setE
          rw [loadN_now, if_neg (by omega), if_neg (by omega)]
        unfold setX at h2
        rw [if_pos hz2] at h2
        exact h2
      · rw [ht]
        repeat (first|refine zA ?_|refine zB rfl ?_|refine zC ?_|refine zD ?_|refine zE rfl ?_|refine zF ?_|refine zG ?_|refine zH ?_|refine zI ?_|refine zJ ?_|refine zK ?_|refine zL rfl ?_|refine zN rfl ?_)
        unfold Try.a53x0
        refine wp_bind (wp_ite_f (wp_ret ?_))
        show wp EM _ _ _
        refine wp_ret ?_
        show wp EM _ _ _
        unfold Try.a53x3
        refine wp_add64 (by omega) (by omega) (wp_ret (.inl ⟨rfl, l.length - (i + 1), by omega, i + 1, _, rfl, by omega, rfl, ?_, H.tl⟩))
        rw [e1, hn]
        exact h0
    · have : i = l.length := by omega
      subst this
      repeat (first|refine zA ?_|refine zB rfl ?_|refine zC ?_|refine zD ?_|refine zE rfl ?_|refine zF ?_|refine zG ?_|refine zH ?_|refine zI ?_|refine zJ ?_|refine zK ?_|refine zL rfl ?_|refine zN rfl ?_)
      refine wp_ret (.inr ⟨by simp, ?_⟩)
      show wp EM _ _ _
      exact wp_ret ⟨rfl, rfl, blk, h, H⟩
end
end Go.Abs
namespace Go.Abs
open Go.Proofs
set_option maxRecDepth 100000
set_option linter.unusedVariables false
open Tsk (Tk tks tchk)
theorem slOk_odd1 {S : AH} {v : AV} {es : Nat} {L : List (List AV)} (h : slOk S v es L) : odd v = false ∧ v.cells = [v] := by
  rcases h with ⟨rfl, _⟩ | ⟨id, off, c, h0, _⟩
  · exact ⟨rfl, rfl⟩
  · rcases h0 with ⟨_, _, _, rfl⟩ | ⟨_, _, _, rfl⟩ <;> exact ⟨rfl, rfl⟩
theorem orE_ok {S : AH} {v : AV} {l : List Int} (hv : RoSl S v 1 (ints l)) (hl : l.length < 1000000) : wpC EM (.fn (.func 104) [] []) [v] S fun r S' => r = I (orI l) ∧ Grows S S' := by
  refine wpC_fn (b := Try.a104) rfl rfl ?_
  have H := Cx.ro1 hv
  unfold Try.a104
  refine wp_len H (by repeat (first | exact List.Mem.head _ | apply List.Mem.tail)) ?_
  rw [ints_len]
  refine wp_bind (wp_loop (wpL_inv (fun m vs S1 => ∃ (i : Nat) (u : AV), vs = [I (i : Int), u] ∧ i ≤ l.length ∧ m = l.length - i ∧ orI l = orI (l.drop i) ∧ Cx S [] S1 [] [.sl v 1 (ints l)]) ?_ l.length ⟨0, _, rfl, by omega, by omega, rfl, H⟩))
  rintro m vs S1 ⟨i, u, rfl, hi, rfl, he, H⟩
  refine wp_lss (fun hlt => ?_) (fun hge => ?_)
  · have hlt : i < l.length := by omega
    repeat (first|refine zA ?_|refine zB rfl ?_|refine zC ?_|refine zD ?_|refine zE rfl ?_|refine zF ?_|refine zG ?_|refine zH ?_|refine zI ?_|refine zJ ?_|refine zK ?_|refine zL rfl ?_|refine zN rfl ?_)
    refine wp_bind ?_
    refine wp_saddr (i := i) (x := [I l[i]]) H (by repeat (first | exact List.Mem.head _ | apply List.Mem.tail)) (by simp [ints, hlt]) fun p off H1 => ?_
    refine wp_load0 H1 (by repeat (first | exact List.Mem.head _ | apply List.Mem.tail)) rfl ?_
    rw [orI_drop hlt] at he
    refine wp_neq (fun hne => ?_) (fun hz => ?_)
    · repeat (first|refine zA ?_|refine zB rfl ?_|refine zC ?_|refine zD ?_|refine zE rfl ?_|refine zF ?_|refine zG ?_|refine zH ?_|refine zI ?_|refine zJ ?_|refine zK ?_|refine zL rfl ?_|refine zN rfl ?_)
      rw [if_pos hne] at he
      exact wp_ret (.inr ⟨by simp, rfl, by rw [he]; rfl, H.grows⟩)
    · repeat (first|refine zA ?_|refine zB rfl ?_|refine zC ?_|refine zD ?_|refine zE rfl ?_|refine zF ?_|refine zG ?_|refine zH ?_|refine zI ?_|refine zJ ?_|refine zK ?_|refine zL rfl ?_|refine zN rfl ?_)
      rw [if_neg (by simpa using hz)] at he
      refine wp_ret ?_
      show wp EM _ _ _
      exact wp_add64 (by omega) (by omega) (wp_ret (.inl ⟨rfl, l.length - (i + 1), by omega, i + 1, _, rfl, by omega, rfl, he, H⟩))
  · repeat (first|refine zA ?_|refine zB rfl ?_|refine zC ?_|refine zD ?_|refine zE rfl ?_|refine zF ?_|refine zG ?_|refine zH ?_|refine zI ?_|refine zJ ?_|refine zK ?_|refine zL rfl ?_|refine zN rfl ?_)
    refine wp_ret (.inr ⟨by simp, wp_ret ⟨rfl, ?_, H.grows⟩⟩)
    rw [List.drop_of_length_le (by omega)] at he
    rw [he]; rfl
/-! ### a run -/
/-- the first one that is due is told, and its task's next time is set -/
def again (l : List Tk) (f : Fi) (x : Wl) : Wl := match l[f.id]? with
  | some t => (match nxt t ((f.tm : Int) + 1) with
    | some a => ⟨x.now, ins ⟨f.id, a⟩ x.L⟩
    | none => x)
  | none => x
def runN (l : List Tk) (to : Int) : Nat → Wl → List Fi → Option (Wl × List Fi)
  | 0, _, _ => none
  | n + 1, x, out => match x.L with
    | [] => some (x, out)
    | f :: L' => if (f.tm : Int) ≤ to then (if n = 0 then none else runN l to n (again l f ⟨x.now, L'⟩) (out ++ [f])) else some (x, out)
def runE (x : Wl) (l : List Tk) (to : Int) : Int := if orI [tchk l, mayE x to] ≠ 0 then orI [tchk l, mayE x to] else match runN l to 4097 x [] with
  | some _ => 0
  | none => 4
def runX (x : Wl) (l : List Tk) (to : Int) : Wl := if orI [tchk l, mayE x to] ≠ 0 then x else match runN l to 4097 x [] with
  | some (y, _) => ⟨to.toNat, y.L⟩
  | none => x
def runL (x : Wl) (l : List Tk) (to : Int) : List Fi := if orI [tchk l, mayE x to] ≠ 0 then [] else match runN l to 4097 x [] with
  | some (_, out) => out
  | none => []
section
variable {B0 S : AH} {W : List Nat} {own E R : List Own} {ro : List Fct} {w : Nat} {x : Wl} {blk : List Own}
theorem Wl.Ok.tail {x : Wl} (h : x.Ok) {f : Fi} {L' : List Fi} (e : x.L = f :: L') : Wl.Ok ⟨x.now, L'⟩ := by
  have := h.rmv f.id
  rw [rmv_head h e] at this
  exact this
theorem notin_tail {x : Wl} (h : x.Ok) {f : Fi} {L' : List Fi} (e : x.L = f :: L') : ∀ g ∈ L', g.id ≠ f.id := by
  have hn := h.nd
  rw [e] at hn
  simp only [List.map_cons, List.nodup_cons] at hn
  exact fun g hg e2 => hn.1 (e2 ▸ List.mem_map.2 ⟨g, hg, rfl⟩)
theorem run_ok {v : AV} {l : List Tk} {to : Int} (hv : Fct.sl v 4 (tks l) ∈ ro) (h : WRep w x blk) (H : Cx B0 W S (E ++ (blk ++ R)) ro) :
    wpC EM (.fn (.func 55) [] []) [.ptr w 0, v, I to] S fun r S' => ∃ u blk', r = .tup [u, I (runE x l to)] ∧ WRep w (runX x l to) blk' ∧ Cx B0 W S' (.sl u 2 (fis (runL x l to)) :: (E ++ (blk' ++ R))) ro := by
  refine wpC_fn (b := Try.a55) rfl rfl ?_
  unfold Try.a55
  refine wp_fin ?_
  have hvo := slOk_odd1 (H.rh _ hv)
  refine wp_box (x := v) H hvo.1 fun bl S1 H => ?_
  rw [hvo.2] at H
  refine wp_alloc H fun p S2 H => ?_
  refine wp_alloc H fun q S3 H => ?_
  -- how it ends: two results
  have fin : ∀ (S : AH) (u : AV) (e : Int) (blk' : List Own) (L : List Fi), runE x l to = e → runL x l to = L → WRep w (runX x l to) blk' → Cx B0 W S (.sl u 2 (fis L) :: .obj q (.row [I e]) :: .obj p (.row [u]) :: (E ++ (blk' ++ R))) (.pt bl 0 [v] :: ro) →
      wp EM (.op (.load 1 false (.ptr p 0)) fun v2 => .op (.load 1 false (.ptr q 0)) fun v3 => .ret .ret [v2, v3]) S fun t vs S' => t = .ret ∧ ∃ u blk', oneOf vs = .tup [u, I (runE x l to)] ∧ WRep w (runX x l to) blk' ∧ Cx B0 W S' (.sl u 2 (fis (runL x l to)) :: (E ++ (blk' ++ R))) ro := by
    intro S u e blk' L he hL h' H
    refine wp_row H 2 rfl rfl ?_
    refine wp_row H 1 rfl rfl ?_
    refine wp_ret ⟨rfl, u, blk', by rw [he]; rfl, h', ?_⟩
    rw [hL]
    exact ((H.dropAt 1).dropAt 1).tl
  unfold Try.a55x13
  refine wp_call (wpC_mono (none_ok (E := .obj q (.row [I 0]) :: .obj p (.row [Ns]) :: E) h H) fun u S1 ⟨hu, H⟩ => ?_)
  subst hu
  repeat (first|refine zA ?_|refine zB rfl ?_|refine zC ?_|refine zD ?_|refine zE rfl ?_|refine zF ?_|refine zG ?_|refine zH ?_|refine zI ?_|refine zJ ?_|refine zK ?_|refine zL rfl ?_|refine zN rfl ?_)
  refine wp_load0 (cs := [v]) H (by repeat (first | exact List.Mem.head _ | apply List.Mem.tail)) rfl ?_
  refine wp_callV H (Tsk.check_ok (l := l) (H.roSl (List.mem_cons_of_mem _ hv))) fun S4 H => ?_
  refine wp_call (wpC_mono (may_ok (E := .obj q (.row [I 0]) :: .obj p (.row [Ns]) :: E) (to := to) h H) fun u S1 ⟨hu, H⟩ => ?_)
  subst hu
  unfold Try.a55x12
  refine wp_two H rfl rfl rfl rfl fun u S5 H => ?_
  refine wp_callV H (orE_ok (l := [tchk l, mayE x to]) (H.roSl (by repeat (first | exact List.Mem.head _ | apply List.Mem.tail))) (by simp)) fun S6 H => ?_
  replace H := H.tl
  refine wp_neq (fun hne => ?_) (fun hz => ?_)
  · repeat (first|refine zA ?_|refine zB rfl ?_|refine zC ?_|refine zD ?_|refine zE rfl ?_|refine zF ?_|refine zG ?_|refine zH ?_|refine zI ?_|refine zJ ?_|refine zK ?_|refine zL rfl ?_|refine zN rfl ?_)
    refine wp_set1 (c := [Ns]) (j := 0) (v := Ns) H 1 rfl (by simp) rfl rfl fun S7 H => ?_
    unfold Try.a55x0
    refine wp_set1 (c := [I 0]) (j := 0) (v := I (orI [tchk l, mayE x to])) H 0 rfl (by simp) rfl rfl fun S8 H => ?_
    refine wp_ret ⟨.inr rfl, fin _ Ns _ blk [] (by unfold runE; rw [if_pos hne]) (by unfold runL; rw [if_pos hne]) (by unfold runX; rw [if_pos hne]; exact h) (H.addNil 2)⟩
  · repeat (first|refine zA ?_|refine zB rfl ?_|refine zC ?_|refine zD ?_|refine zE rfl ?_|refine zF ?_|refine zG ?_|refine zH ?_|refine zI ?_|refine zJ ?_|refine zK ?_|refine zL rfl ?_|refine zN rfl ?_)
    have hc : tchk l = 0 ∧ mayE x to = 0 := by
      unfold orI orI orI at hz
      split at hz
      · next h1 => exact absurd hz h1
      · next h1 =>
        split at hz
        · next h2 => exact absurd hz h2
        · next h2 => exact ⟨by simpa using h1, by simpa using h2⟩
    have hto : 0 ≤ to ∧ to ≤ 1099511627776 ∧ ¬ to < x.now := by
      have hz := hc.2
      unfold mayE at hz
      split at hz
      · next h1 =>
        split at hz
        · cases hz
        · next h2 => exact ⟨h1.1, h1.2, h2⟩
      · cases hz
    have hlen := Tsk.tchk_len hc.1
    refine wp_alloc H fun po S7 H => ?_
    unfold Try.a55x11
    refine wp_call (wpC_mono (copyW_ok (E := .obj po (.row [Ns]) :: .obj q (.row [I 0]) :: .obj p (.row [Ns]) :: E) h H) fun r S8 ⟨w', blk2, hr, h2, H⟩ => ?_)
    subst hr
    refine wp_alloc H fun pt S9 H => ?_
    refine wp_set1 (c := [Np]) (j := 0) (v := .ptr w' 0) H 0 rfl (by simp) rfl rfl fun S10 H => ?_
    refine wp_row (c := [.ptr w' 0]) (j := 0) H 0 rfl rfl ?_
    refine wp_call (wpC_fn (b := Try.a97) rfl rfl ?_)
    unfold Try.a97
    refine wp_box (x := .ptr w' 0) H rfl fun b1 S11 H => ?_
    refine wp_box (x := I to) H rfl fun b2 S12 H => ?_
    refine wp_ret ⟨rfl, ?_⟩
    have H0 := Cx.addNil H 2
    let Z : List Own := E ++ (blk ++ R)
    let EE : AV → List Fi → Int → List Own := fun u out e => [.sl u 2 (fis out), .obj pt (.row [.ptr w' 0]), .obj po (.row [u]), .obj q (.row [I e]), .obj p (.row [Ns])]
    have H1 : Cx B0 W S12 ([] ++ (EE Ns [] 0 ++ (blk2 ++ Z))) (.pt b2 0 [I to] :: .pt b1 0 [.ptr w' 0] :: .pt bl 0 [v] :: ro) :=
      H0.perm (List.Perm.cons _ (List.Perm.cons _ (List.perm_append_comm_assoc blk2 [.obj po (.row [Ns]), .obj q (.row [I 0]), .obj p (.row [Ns])] Z)))
    unfold Try.a55x8
    refine wp_bind (wp_rngDue (w := w') (bx := b1) (bt := b2) (to := to) (by repeat (first | exact List.Mem.head _ | apply List.Mem.tail)) (by repeat (first | exact List.Mem.head _ | apply List.Mem.tail))
      (fun n x' E' R' => ∃ u out, E' = EE u out 0 ∧ R' = Z ∧ n + out.length = 4096 ∧ x'.now = x.now ∧ runN l to (n + 1) x' out = runN l to 4097 x [])
      (fun t x' E' R' => t = .ret ∧ runN l to 4097 x [] = none ∧ ∃ u out, E' = EE u out 4 ∧ R' = Z) ?_ (n := 4096) ⟨Ns, [], rfl, rfl, rfl, rfl, rfl⟩ h2 H1 ?_ ?_)
    · rintro ly n x' f L' E' R' ho hL hle ⟨u, out, rfl, rfl, hn, hnow, hrun⟩ E0 blk' S13 ro' hro h' H5
      refine wp_round2 (x := I (f.id : Int)) (y := I (f.tm : Int)) H5 fun qf S14 H6 => ?_
      unfold Try.a55x7
      refine wp_bind ?_
      refine wp_row (c := [u]) (j := 0) H6 (E0.length + 3) (app_get rfl) rfl ?_
      refine wp_leno H6 (E0.length + 1) (app_get rfl) ?_
      rw [fis_len]
      have hrun2 : runN l to (n + 1) x' out = if n = 0 then none else runN l to n (again l f ⟨x'.now, L'⟩) (out ++ [f]) := by
        conv => lhs; unfold runN
        rw [hL]
        simp only [hle, if_true]
      refine wp_eql (fun hfull => ?_) (fun hfull => ?_)
      · -- too many
        unfold Try.a55x6
        repeat (first|refine zA ?_|refine zB rfl ?_|refine zC ?_|refine zD ?_|refine zE rfl ?_|refine zF ?_|refine zG ?_|refine zH ?_|refine zI ?_|refine zJ ?_|refine zK ?_|refine zL rfl ?_|refine zN rfl ?_)
        have hn0 : n = 0 := by omega
        rw [hrun2, if_pos hn0] at hrun
        refine wp_set1 (c := [Ns]) (j := 0) (v := Ns) H6 (E0.length + 5) (app_get rfl) (by simp) rfl rfl fun S15 H7 => ?_
        rw [app_set] at H7
        refine wp_set1 (c := [I 0]) (j := 0) (v := I 4) H7 (E0.length + 4) (app_get rfl) (by simp) rfl rfl fun S16 H8 => ?_
        rw [app_set] at H8
        refine wp_ret ⟨0, ⟨x'.now, L'⟩, EE u out 4, Z, blk', h', H8.tl, .inr ⟨by simp, rfl, hrun.symm, u, out, rfl, rfl⟩⟩
      · unfold Try.a55x6
        repeat (first|refine zA ?_|refine zB rfl ?_|refine zC ?_|refine zD ?_|refine zE rfl ?_|refine zF ?_|refine zG ?_|refine zH ?_|refine zI ?_|refine zJ ?_|refine zK ?_|refine zL rfl ?_|refine zN rfl ?_)
        have hn0 : n ≠ 0 := by omega
        rw [hrun2, if_neg hn0] at hrun
        refine wp_row (c := [u]) (j := 0) H6 (E0.length + 3) (app_get rfl) rfl ?_
        refine wp_loada (n := 2) (id := qf) (off := 0) (cs := f.cs) H6 (by repeat (first | exact List.Mem.head _ | apply List.Mem.tail)) (Nat.le_refl _) ?_
        refine wp_push (L := fis out) (x := .agg f.cs) H6 (E0.length + 1) (app_get rfl) rfl rfl rfl (by rw [fis_len]; unfold maxBytes; omega) (by rw [fis_len]; unfold maxLenN; omega) fun u1 S15 H7 => ?_
        rw [app_set] at H7
        have e7 : fis out ++ [(AV.agg f.cs).cells] = fis (out ++ [f]) := by rw [fis_app]; rfl
        rw [e7] at H7
        have hs : slW S15 u1 2 (fis (out ++ [f])) := H7.oh _ (List.mem_append_right _ (List.Mem.tail _ (List.Mem.head _)))
        unfold Try.a55x5
        refine wp_set1 (c := [u]) (j := 0) H7 (E0.length + 3) (app_get rfl) (by simp) (slW_one hs).1 (slW_one hs).2 fun S16 H8 => ?_
        rw [app_set] at H8
        have H8 : Cx B0 W S16 (E0 ++ Own.obj ly (.loop .busy none 1 (fun v17 => .op (.alloc [(I 0), (I 0)]) fun v18 => .op (.store 2 v18 (nth v17 1)) fun v19 => .start (nth v17 0) (Try.a55x7 (.ptr bl 0) (.ptr p 0) (.ptr q 0) (.ptr po 0) (.ptr pt 0) v18))) :: (EE u1 (out ++ [f]) 0 ++ (blk' ++ Z))) (.pt qf 0 [I (f.id : Int), I (f.tm : Int)] :: ro') := H8
        repeat (first|refine zA ?_|refine zB rfl ?_|refine zC ?_|refine zD ?_|refine zE rfl ?_|refine zF ?_|refine zG ?_|refine zH ?_|refine zI ?_|refine zJ ?_|refine zK ?_|refine zL rfl ?_|refine zN rfl ?_)
        refine wp_load1 (id := qf) (j := 0) H8 (cs := f.cs) (by repeat (first | exact List.Mem.head _ | apply List.Mem.tail)) rfl ?_
        have hbl : Fct.pt bl 0 [v] ∈ ro' := hro _ (by repeat (first | exact List.Mem.head _ | apply List.Mem.tail))
        have hvr : Fct.sl v 4 (tks l) ∈ ro' := hro _ (List.mem_cons_of_mem _ (List.mem_cons_of_mem _ (List.mem_cons_of_mem _ hv)))
        refine wp_load0 (cs := [v]) H8 (List.mem_cons_of_mem _ hbl) rfl ?_
        refine wp_len H8 (List.mem_cons_of_mem _ hvr) ?_
        rw [Tsk.tks_len]
        unfold Try.a55x4
        have done : ∀ (S : AH) (y : Wl) (blk4 : List Own), again l f ⟨x'.now, L'⟩ = y → WRep w' y blk4 →
            Cx B0 W S (E0 ++ Own.obj ly (.loop .busy none 1 (fun v17 => .op (.alloc [(I 0), (I 0)]) fun v18 => .op (.store 2 v18 (nth v17 1)) fun v19 => .start (nth v17 0) (Try.a55x7 (.ptr bl 0) (.ptr p 0) (.ptr q 0) (.ptr po 0) (.ptr pt 0) v18))) :: (EE u1 (out ++ [f]) 0 ++ (blk4 ++ Z))) (.pt qf 0 [I (f.id : Int), I (f.tm : Int)] :: ro') → y.now = x.now →
            wp EM (.ret .normal []) S fun t _ S' => ∃ n' x' E' R' blk', WRep w' x' blk' ∧ Cx B0 W S' (E0 ++ Own.obj ly (.loop .busy none 1 (fun v17 => .op (.alloc [(I 0), (I 0)]) fun v18 => .op (.store 2 v18 (nth v17 1)) fun v19 => .start (nth v17 0) (Try.a55x7 (.ptr bl 0) (.ptr p 0) (.ptr q 0) (.ptr po 0) (.ptr pt 0) v18))) :: (E' ++ (blk' ++ R'))) ro' ∧
              ((t = .normal ∧ n' < n ∧ ∃ u out, E' = EE u out 0 ∧ R' = Z ∧ n' + out.length = 4096 ∧ x'.now = x.now ∧ runN l to (n' + 1) x' out = runN l to 4097 x []) ∨ (t ≠ .normal ∧ t = .ret ∧ runN l to 4097 x [] = none ∧ ∃ u out, E' = EE u out 4 ∧ R' = Z)) := by
          intro S y blk4 hy h4 H4 hnow4
          refine wp_ret ⟨n - 1, y, EE u1 (out ++ [f]) 0, Z, blk4, h4, H4.tl, .inl ⟨rfl, by omega, u1, out ++ [f], rfl, rfl, by simp; omega, hnow4, ?_⟩⟩
          rw [show n - 1 + 1 = n by omega, ← hy]; exact hrun
        refine wp_geq (fun hge => ?_) (fun hlt => ?_)
        · refine wp_ite_t (wp_ret ?_)
          show wp EM _ _ _
          refine done _ ⟨x'.now, L'⟩ blk' ?_ h' H8 hnow
          unfold again
          rw [List.getElem?_eq_none (by omega)]
        · have hlt : f.id < l.length := by omega
          refine wp_ite_f ?_
          refine wp_load0 (cs := [v]) H8 (List.mem_cons_of_mem _ hbl) rfl ?_
          repeat (first|refine zA ?_|refine zB rfl ?_|refine zC ?_|refine zD ?_|refine zE rfl ?_|refine zF ?_|refine zG ?_|refine zH ?_|refine zI ?_|refine zJ ?_|refine zK ?_|refine zL rfl ?_|refine zN rfl ?_)
          refine wp_load1 (id := qf) (j := 0) H8 (cs := f.cs) (by repeat (first | exact List.Mem.head _ | apply List.Mem.tail)) rfl ?_
          refine wp_saddr (i := f.id) H8 (List.mem_cons_of_mem _ hvr) (Tsk.tks_get hlt) fun qt qto H9 => ?_
          unfold Try.a55x3
          refine wp_loada (n := 4) H9 (cs := l[f.id].cs) (by repeat (first | exact List.Mem.head _ | apply List.Mem.tail)) (Nat.le_refl _) ?_
          replace H9 := H9.tl
          repeat (first|refine zA ?_|refine zB rfl ?_|refine zC ?_|refine zD ?_|refine zE rfl ?_|refine zF ?_|refine zG ?_|refine zH ?_|refine zI ?_|refine zJ ?_|refine zK ?_|refine zL rfl ?_|refine zN rfl ?_)
          refine wp_load1 (id := qf) (j := 1) H9 (cs := f.cs) (by repeat (first | exact List.Mem.head _ | apply List.Mem.tail)) rfl ?_
          have hftm := ho.le f (by rw [hL]; simp)
          refine wp_add64 (by omega) (by omega) ?_
          refine wp_callV H9 (Tsk.next_ok (x := l[f.id]) (now := (f.tm : Int) + 1)) fun S17 H10 => ?_
          have hag : again l f ⟨x'.now, L'⟩ = match nxt l[f.id] ((f.tm : Int) + 1) with | some a => ⟨x'.now, ins ⟨f.id, a⟩ L'⟩ | none => ⟨x'.now, L'⟩ := by
            unfold again
            rw [List.getElem?_eq_getElem hlt]
          rcases nxt_ok l[f.id] ((f.tm : Int) + 1) with ⟨t, hn1, ht, hge1, hle1⟩ | ⟨hn1, ht⟩
          · rw [ht]
            repeat (first|refine zA ?_|refine zB rfl ?_|refine zC ?_|refine zD ?_|refine zE rfl ?_|refine zF ?_|refine zG ?_|refine zH ?_|refine zI ?_|refine zJ ?_|refine zK ?_|refine zL rfl ?_|refine zN rfl ?_)
            unfold Try.a55x2
            repeat (first|refine zA ?_|refine zB rfl ?_|refine zC ?_|refine zD ?_|refine zE rfl ?_|refine zF ?_|refine zG ?_|refine zH ?_|refine zI ?_|refine zJ ?_|refine zK ?_|refine zL rfl ?_|refine zN rfl ?_)
            refine wp_bind (wp_ite_t ?_)
            unfold Try.a55x1
            refine wp_row (c := [.ptr w' 0]) (j := 0) H10 (E0.length + 2) (app_get rfl) rfl ?_
            repeat (first|refine zA ?_|refine zB rfl ?_|refine zC ?_|refine zD ?_|refine zE rfl ?_|refine zF ?_|refine zG ?_|refine zH ?_|refine zI ?_|refine zJ ?_|refine zK ?_|refine zL rfl ?_|refine zN rfl ?_)
            refine wp_load1 (id := qf) (j := 0) H10 (cs := f.cs) (by repeat (first | exact List.Mem.head _ | apply List.Mem.tail)) rfl ?_
            refine wp_op (v := .agg (Fi.mk f.id t).cs) rfl ?_
            have e11 : E0 ++ Own.obj ly (.loop .busy none 1 (fun v17 => .op (.alloc [(I 0), (I 0)]) fun v18 => .op (.store 2 v18 (nth v17 1)) fun v19 => .start (nth v17 0) (Try.a55x7 (.ptr bl 0) (.ptr p 0) (.ptr q 0) (.ptr po 0) (.ptr pt 0) v18))) :: (EE u1 (out ++ [f]) 0 ++ (blk' ++ Z)) =
                (E0 ++ Own.obj ly (.loop .busy none 1 (fun v17 => .op (.alloc [(I 0), (I 0)]) fun v18 => .op (.store 2 v18 (nth v17 1)) fun v19 => .start (nth v17 0) (Try.a55x7 (.ptr bl 0) (.ptr p 0) (.ptr q 0) (.ptr po 0) (.ptr pt 0) v18))) :: EE u1 (out ++ [f]) 0) ++ (blk' ++ Z) := by simp
            rw [e11] at H10
            have hfm : f ∈ x'.L := by rw [hL]; simp
            refine wp_call (wpC_mono (putW (f := ⟨f.id, t⟩) h' H10 (fun g hg => notin_tail ho hL g hg) (by have := ho.ge f hfm; show x'.now ≤ t; omega) hle1 (ho.id f hfm)) fun r S18 ⟨blk5, h5, H11⟩ => ?_)
            have e12 : (E0 ++ Own.obj ly (.loop .busy none 1 (fun v17 => .op (.alloc [(I 0), (I 0)]) fun v18 => .op (.store 2 v18 (nth v17 1)) fun v19 => .start (nth v17 0) (Try.a55x7 (.ptr bl 0) (.ptr p 0) (.ptr q 0) (.ptr po 0) (.ptr pt 0) v18))) :: EE u1 (out ++ [f]) 0) ++ (blk5 ++ Z) =
                E0 ++ Own.obj ly (.loop .busy none 1 (fun v17 => .op (.alloc [(I 0), (I 0)]) fun v18 => .op (.store 2 v18 (nth v17 1)) fun v19 => .start (nth v17 0) (Try.a55x7 (.ptr bl 0) (.ptr p 0) (.ptr q 0) (.ptr po 0) (.ptr pt 0) v18))) :: (EE u1 (out ++ [f]) 0 ++ (blk5 ++ Z)) := by simp
            rw [e12] at H11
            refine wp_ret ?_
            show wp EM _ _ _
            refine wp_ret ?_
            show wp EM _ _ _
            exact done _ _ blk5 (by rw [hag, hn1]) h5 H11 hnow
          · rw [ht]
            repeat (first|refine zA ?_|refine zB rfl ?_|refine zC ?_|refine zD ?_|refine zE rfl ?_|refine zF ?_|refine zG ?_|refine zH ?_|refine zI ?_|refine zJ ?_|refine zK ?_|refine zL rfl ?_|refine zN rfl ?_)
            unfold Try.a55x2
            repeat (first|refine zA ?_|refine zB rfl ?_|refine zC ?_|refine zD ?_|refine zE rfl ?_|refine zF ?_|refine zG ?_|refine zH ?_|refine zI ?_|refine zJ ?_|refine zK ?_|refine zL rfl ?_|refine zN rfl ?_)
            refine wp_bind (wp_ite_f (wp_ret ?_))
            show wp EM _ _ _
            refine wp_ret ?_
            show wp EM _ _ _
            exact done _ _ blk' (by rw [hag, hn1]) h' H10 hnow
    · rintro S13 n' x' E' R' blk' ⟨u, out, rfl, rfl, hn, hnow, hrun⟩ hd h' H5
      have hend : runN l to (n' + 1) x' out = some (x', out) := by
        unfold runN
        cases hL : x'.L with
        | nil => rfl
        | cons f L' =>
          have := hd f (by rw [hL]; simp)
          simp only
          rw [if_neg (by omega)]
      rw [hend] at hrun
      refine wp_ret ?_
      show wp EM _ _ _
      unfold Try.a55x10
      have H6 : Cx B0 W S13 (EE u out 0 ++ (blk' ++ Z)) (.pt b2 0 [I to] :: .pt b1 0 [.ptr w' 0] :: .pt bl 0 [v] :: ro) := H5
      refine wp_row (c := [.ptr w' 0]) (j := 0) H6 1 rfl rfl ?_
      obtain ⟨t, rfl⟩ : ∃ t : Nat, to = (t : Int) := ⟨to.toNat, by omega⟩
      refine wp_call (wpC_mono (move_ok (to := t) h' H6 (by omega) (fun f hf => by have := hd f hf; omega)) fun r S14 ⟨blk6, h6, H7⟩ => ?_)
      refine wp_row (c := [.ptr w' 0]) (j := 0) H7 1 rfl rfl ?_
      repeat (first|refine zA ?_|refine zB rfl ?_|refine zC ?_|refine zD ?_|refine zE rfl ?_|refine zF ?_|refine zG ?_|refine zH ?_|refine zI ?_|refine zJ ?_|refine zK ?_|refine zL rfl ?_|refine zN rfl ?_)
      obtain ⟨ho6, m6, vs6, Mp6, hM6, rfl⟩ := h6
      have hrow := H7.oh _ (List.mem_of_getElem? (wO_row (E := EE u out 0) (R := Z)))
      refine wp_op (e_loadn (row_cells hrow) (by rw [wrow_len]; omega)) ?_
      rw [List.drop_zero, List.take_of_length_le (by rw [wrow_len]; omega)]
      repeat (first|refine zA ?_|refine zB rfl ?_|refine zC ?_|refine zD ?_|refine zE rfl ?_|refine zF ?_|refine zG ?_|refine zH ?_|refine zI ?_|refine zJ ?_|refine zK ?_|refine zL rfl ?_|refine zN rfl ?_)
      unfold Try.a55x9
      obtain ⟨ho, m, vs, Mp, hM, rfl⟩ := h
      have hidx : (EE u out 0 ++ (wOwn w' m6 (wrow t m6 vs6) Mp6 vs6 (Wl.slot ⟨t, x'.L⟩) ++ (E ++ (wOwn w m (wrow x.now m vs) Mp vs x.slot ++ R))))[(EE u out 0).length + ((wOwn w' m6 (wrow t m6 vs6) Mp6 vs6 (Wl.slot ⟨t, x'.L⟩)).length + (E.length + 0))]? = some (.obj w (.row (wrow x.now m vs))) := app_get (app_get wO_row)
      refine wp_store (n := 179) (c := wrow x.now m vs) (off := 0) (v := .agg (wrow t m6 vs6)) H7 _ hidx rfl (by show (wrow t m6 vs6).length = 179; exact wrow_len ..) (by rw [wrow_len]; omega) fun S15 H8 => ?_
      have e8 : setRange (wrow x.now m vs) 0 (AV.agg (wrow t m6 vs6)).cells = wrow t m6 vs6 := by
        show setRange (wrow x.now m vs) 0 (wrow t m6 vs6) = _
        rw [setRange_eq, wrow_len, List.take_zero, List.nil_append, Nat.zero_add, List.drop_eq_nil_of_le (by rw [wrow_len]; omega), List.append_nil]
      rw [e8] at H8
      have e9 : (EE u out 0 ++ (wOwn w' m6 (wrow t m6 vs6) Mp6 vs6 (Wl.slot ⟨t, x'.L⟩) ++ (E ++ (wOwn w m (wrow x.now m vs) Mp vs x.slot ++ R)))).set ((EE u out 0).length + ((wOwn w' m6 (wrow t m6 vs6) Mp6 vs6 (Wl.slot ⟨t, x'.L⟩)).length + (E.length + 0))) (.obj w (.row (wrow t m6 vs6))) =
          EE u out 0 ++ (wOwn w' m6 (wrow t m6 vs6) Mp6 vs6 (Wl.slot ⟨t, x'.L⟩) ++ (E ++ (wOwn w m (wrow t m6 vs6) Mp vs x.slot ++ R))) := by
        rw [app_set, app_set, wO_setRow]
      rw [e9] at H8
      -- what was the copy's is the wheel's now
      have H9 : Cx B0 W S15 (EE u out 0 ++ (E ++ (wOwn w m6 (wrow t m6 vs6) Mp6 vs6 (Wl.slot ⟨t, x'.L⟩) ++ R))) (.pt b2 0 [I (t : Int)] :: .pt b1 0 [.ptr w' 0] :: .pt bl 0 [v] :: ro) := by
        let slots := (List.range 176).map fun k => Own.sl (vs6 k) 2 (fis (Wl.slot ⟨t, x'.L⟩ k))
        have s1 : (EE u out 0 ++ ((Own.obj m6 (.map (ment Mp6)) :: slots) ++ (E ++ ([Own.obj w (.row (wrow t m6 vs6))] ++ R)))).Sublist (EE u out 0 ++ (wOwn w' m6 (wrow t m6 vs6) Mp6 vs6 (Wl.slot ⟨t, x'.L⟩) ++ (E ++ (wOwn w m (wrow t m6 vs6) Mp vs x.slot ++ R)))) := by
          refine List.Sublist.append (List.Sublist.refl _) (List.Sublist.append (List.sublist_cons_self _ _) (List.Sublist.append (List.Sublist.refl _) (List.Sublist.append ?_ (List.Sublist.refl _))))
          exact List.Sublist.cons_cons _ (List.nil_sublist _)
        refine (H8.dropOwn s1).perm (List.Perm.append_left _ ?_)
        refine (List.perm_append_comm_assoc _ _ _).trans (List.Perm.append_left _ ?_)
        have p1 : ((Own.obj m6 (.map (ment Mp6)) :: slots) ++ ([Own.obj w (.row (wrow t m6 vs6))] ++ R)).Perm ([Own.obj w (.row (wrow t m6 vs6))] ++ ((Own.obj m6 (.map (ment Mp6)) :: slots) ++ R)) := List.perm_append_comm_assoc _ _ _
        exact p1
      refine wp_row (c := [u]) (j := 0) H9 2 rfl rfl ?_
      have hsu : slOk S15 u 2 (fis out) := ownSl_ok (H9.oh _ (List.Mem.head _))
      refine wp_set1 (c := [Ns]) (j := 0) (v := u) H9 4 rfl (by simp) (slOk_odd1 hsu).1 (slOk_odd1 hsu).2 fun S16 H10 => ?_
      refine wp_set1 (c := [I 0]) (j := 0) (v := I 0) H10 3 rfl (by simp) rfl rfl fun S17 H11 => ?_
      have H12 := ((H11.dropAt 1).dropAt 1).dropRo (ro' := .pt bl 0 [v] :: ro) (fun φ h => List.mem_cons_of_mem _ (List.mem_cons_of_mem _ h))
      refine wp_ret ⟨.inr rfl, fin _ u 0 _ out ?_ ?_ ⟨?_, m6, vs6, Mp6, ?_, rfl⟩ ?_⟩
      · unfold runE; rw [if_neg (by simpa using hz), ← hrun]
      · unfold runL; rw [if_neg (by simpa using hz), ← hrun]
      · unfold runX; rw [if_neg (by simpa using hz), ← hrun]; exact ho6
      · unfold runX; rw [if_neg (by simpa using hz), ← hrun]; exact hM6
      · unfold runX; rw [if_neg (by simpa using hz), ← hrun]; exact H12
    · rintro t S13 x' E' R' blk' ht ⟨rfl, hnone, u, out, rfl, rfl⟩ h' H5
      refine ⟨.inr rfl, fin _ Ns 4 blk [] (by unfold runE; rw [if_neg (by simpa using hz), hnone]) (by unfold runL; rw [if_neg (by simpa using hz), hnone]) (by unfold runX; rw [if_neg (by simpa using hz), hnone]; exact h) ?_⟩
      have H6 : Cx B0 W S13 (EE u out 4 ++ (blk' ++ Z)) (.pt b2 0 [I to] :: .pt b1 0 [.ptr w' 0] :: .pt bl 0 [v] :: ro) := H5
      have s1 : ([Own.obj q (.row [I 4]), Own.obj p (.row [Ns])] ++ Z).Sublist (EE u out 4 ++ (blk' ++ Z)) := by
        refine List.Sublist.append ?_ (List.sublist_append_right _ _)
        exact List.Sublist.cons _ (List.Sublist.cons _ (List.Sublist.cons _ (List.Sublist.refl _)))
      exact ((H6.dropOwn s1).addNil 2).dropRo (fun φ h => List.mem_cons_of_mem _ (List.mem_cons_of_mem _ h))
end
end Go.Abs
namespace Go.Abs
open Go.Proofs
set_option maxRecDepth 100000
set_option linter.unusedVariables false
open Tsk (Tk tks tchk)
section
variable {B0 S : AH} {W : List Nat} {own E R : List Own} {ro : List Fct} {Q : Post} {k : AV → AC}
/-- a new list of numbers -/
theorem wp_lits (H : Cx B0 W S own ro) {n : Nat} {ps : List (Nat × Nat × AV)} (l : List Int) (he : fillP (repZero [I 0] n) ps = some (l.map fun a => I a)) (hn : l.length = n)
    (h : ∀ v S1, Cx B0 W S1 own (.sl v 1 (ints l) :: ro) → wp EM (k v) S1 Q) : wp EM (.op (.bslice 1 n [I 0] ps) k) S Q := by
  refine wp_op (v := .sl S.next 0 n n) (S1 := S.new (.row (l.map fun a => I a))) ?_ (h _ _ (H.addNewRo (Grows.new S _) (φ := .sl (.sl S.next 0 n n) 1 (ints l)) ?_ ?_))
  · show nBslice 1 n [I 0] ps S = _
    unfold nBslice
    rw [he]
    have e : (Nat.beq (lenL (l.map fun a => I a)) (Nat.mul n 1) && Nat.beq (lenL [I 0]) 1) = true := by
      rw [lenL_eq, List.length_map, hn, show Nat.mul n 1 = n from Nat.mul_one n, Nat.beq_refl]; rfl
    simp only [e]
    rfl
  · refine .inr ⟨S.next, 0, l.map fun a => I a, .inl ⟨n, by rw [ints_len]; omega, by simp [hn], by rw [ints_len, hn]⟩, row_cells (get_new_same _ _), ?_, ?_⟩
    · rw [ints_len, List.drop_zero, List.take_of_length_le (by simp)]
      unfold ints
      clear he hn h
      induction l with
      | nil => rfl
      | cons a r ih => simp only [List.map_cons, List.flatten_cons, ih]; rfl
    · intro x hx
      obtain ⟨a, _, rfl⟩ := List.mem_map.1 hx
      rfl
  · intro id hid
    simp only [Fct.ids, vids, List.mem_singleton] at hid
    subst hid
    exact ⟨Nat.le_refl _, by simp [AH.new]⟩
def numsF (L : List Fi) : List Int := L.flatMap fun f => [(f.id : Int), (f.tm : Int)]
theorem numsF_len (L : List Fi) : (numsF L).length = 2 * L.length := by
  unfold numsF
  induction L with
  | nil => rfl
  | cons f r ih => simp only [List.flatMap_cons, List.length_append, ih]; simp; omega
theorem numsF_get {L : List Fi} {i : Nat} (h : i < L.length) : (numsF L)[2 * i]? = some (L[i].id : Int) ∧ (numsF L)[2 * i + 1]? = some (L[i].tm : Int) := by
  induction L generalizing i with
  | nil => simp at h
  | cons f r ih =>
    unfold numsF at ih ⊢
    cases i with
    | zero => simp
    | succ i =>
      have := ih (i := i) (by simpa using h)
      rw [show 2 * (i + 1) = 2 * i + 1 + 1 by omega]
      simpa using this
/-- timers, by their numbers -/
theorem fires_ok {v : AV} {L : List Fi} (hv : Fct.sl v 1 (ints (numsF L)) ∈ ro) (hl : L.length < 1000) (H : Cx B0 W S own ro) :
    wpC EM (.fn (.func 86) [] []) [v] S fun r S' => Cx B0 W S' (.sl r 2 (fis L) :: own) ro := by
  refine wpC_fn (b := Try.a86) rfl rfl ?_
  unfold Try.a86
  refine wp_bind (wp_loop (wpL_inv (fun m vs S1 => ∃ (i : Nat) (u : AV), vs = [I ((2 * i : Nat) : Int), u] ∧ i ≤ L.length ∧ m = L.length - i ∧ Cx B0 W S1 (.sl u 2 (fis (L.take i)) :: own) ro) ?_ L.length ⟨0, Ns, rfl, by omega, by omega, H.addNil 2⟩))
  rintro m vs S1 ⟨i, u, rfl, hi, rfl, H⟩
  unfold Try.a86x3
  refine wp_add64 (by omega) (by omega) ?_
  refine wp_len H hv ?_
  rw [ints_len, numsF_len]
  refine wp_lss (fun hlt => ?_) (fun hge => ?_)
  · have hlt : i < L.length := by omega
    obtain ⟨g1, g2⟩ := numsF_get hlt
    repeat (first|refine zA ?_|refine zB rfl ?_|refine zC ?_|refine zD ?_|refine zE rfl ?_|refine zF ?_|refine zG ?_|refine zH ?_|refine zI ?_|refine zJ ?_|refine zK ?_|refine zL rfl ?_|refine zN rfl ?_)
    refine wp_bind ?_
    unfold Try.a86x1
    refine wp_saddr (i := 2 * i) (x := [I (L[i].id : Int)]) H hv (by unfold ints; rw [List.getElem?_map, g1]; rfl) fun q qo H1 => ?_
    refine wp_load0 H1 (by repeat (first | exact List.Mem.head _ | apply List.Mem.tail)) rfl ?_
    refine wp_add64 (by omega) (by omega) ?_
    have e1 : (((2 * i : Nat) : Int) + 1) = ((2 * i + 1 : Nat) : Int) := by omega
    rw [e1]
    refine wp_saddr (i := 2 * i + 1) (x := [I (L[i].tm : Int)]) H1.tl hv (by unfold ints; rw [List.getElem?_map, g2]; rfl) fun q2 qo2 H2 => ?_
    refine wp_load0 H2 (by repeat (first | exact List.Mem.head _ | apply List.Mem.tail)) rfl ?_
    refine wp_op (v := .agg L[i].cs) rfl ?_
    unfold Try.a86x0
    refine wp_push (L := fis (L.take i)) (x := .agg L[i].cs) H2 0 rfl rfl rfl rfl (by rw [fis_len, List.length_take]; unfold maxBytes; omega) (by rw [fis_len, List.length_take]; unfold maxLenN; omega) fun u1 S3 H3 => ?_
    have e3 : fis (L.take i) ++ [(AV.agg L[i].cs).cells] = fis (L.take (i + 1)) := by
      rw [List.take_succ_eq_append_getElem hlt, fis_app]; rfl
    rw [e3] at H3
    refine wp_ret ?_
    show wp EM _ _ _
    unfold Try.a86x2
    refine wp_add64 (by omega) (by omega) (wp_ret (.inl ⟨rfl, L.length - (i + 1), by omega, i + 1, u1, ?_, by omega, rfl, H3.tl⟩))
    have e4 : (((2 * i : Nat) : Int) + 2) = ((2 * (i + 1) : Nat) : Int) := by omega
    rw [← e4]; rfl
  · have : i = L.length := by omega
    subst this
    repeat (first|refine zA ?_|refine zB rfl ?_|refine zC ?_|refine zD ?_|refine zE rfl ?_|refine zF ?_|refine zG ?_|refine zH ?_|refine zI ?_|refine zJ ?_|refine zK ?_|refine zL rfl ?_|refine zN rfl ?_)
    refine wp_ret (.inr ⟨by simp, ?_⟩)
    show wp EM _ _ _
    rw [List.take_length] at H
    exact wp_ret ⟨rfl, H⟩
/-- two lists of timers that are the same -/
theorem sameF_ok {a b : AV} {L : List Fi} (ha : RoSl S a 2 (fis L)) (hb : RoSl S b 2 (fis L)) (hl : L.length < 1000000) :
    wpC EM (.fn (.func 51) [] []) [a, b] S fun r S' => r = B true ∧ Grows S S' := by
  refine wpC_fn (b := Try.a51) rfl rfl ?_
  have H := Cx.ro2 ha hb
  unfold Try.a51
  refine wp_len H (by repeat (first | exact List.Mem.head _ | apply List.Mem.tail)) ?_
  refine wp_len H (by repeat (first | exact List.Mem.head _ | apply List.Mem.tail)) ?_
  refine wp_eql_t rfl ?_
  unfold Try.a51x3
  refine wp_bind (wp_loop (wpL_inv (fun m vs S1 => ∃ (i : Nat), vs = [I (i : Int), B true] ∧ i ≤ L.length ∧ m = L.length - i ∧ Cx S [] S1 [] [.sl a 2 (fis L), .sl b 2 (fis L)]) ?_ L.length ⟨0, rfl, by omega, by omega, H⟩))
  rintro m vs S1 ⟨i, rfl, hi, rfl, H⟩
  repeat (first|refine zA ?_|refine zB rfl ?_|refine zC ?_|refine zD ?_|refine zE rfl ?_|refine zF ?_|refine zG ?_|refine zH ?_|refine zI ?_|refine zJ ?_|refine zK ?_|refine zL rfl ?_|refine zN rfl ?_)
  refine wp_len H (by repeat (first | exact List.Mem.head _ | apply List.Mem.tail)) ?_
  rw [fis_len]
  unfold Try.a51x2
  repeat (first|refine zA ?_|refine zB rfl ?_|refine zC ?_|refine zD ?_|refine zE rfl ?_|refine zF ?_|refine zG ?_|refine zH ?_|refine zI ?_|refine zJ ?_|refine zK ?_|refine zL rfl ?_|refine zN rfl ?_)
  refine wp_lss (fun hlt => ?_) (fun hge => ?_)
  · have hlt : i < L.length := by omega
    repeat (first|refine zA ?_|refine zB rfl ?_|refine zC ?_|refine zD ?_|refine zE rfl ?_|refine zF ?_|refine zG ?_|refine zH ?_|refine zI ?_|refine zJ ?_|refine zK ?_|refine zL rfl ?_|refine zN rfl ?_)
    refine wp_bind ?_
    unfold Try.a51x0
    refine wp_saddr (v := a) (L := fis L) (i := i) H (by repeat (first | exact List.Mem.head _ | apply List.Mem.tail)) (fis_get hlt) fun q qo H1 => ?_
    refine wp_loada (n := 2) H1 (cs := L[i].cs) (by repeat (first | exact List.Mem.head _ | apply List.Mem.tail)) (Nat.le_refl _) ?_
    refine wp_saddr (v := b) (L := fis L) (i := i) H1.tl (by repeat (first | exact List.Mem.head _ | apply List.Mem.tail)) (fis_get hlt) fun q2 qo2 H2 => ?_
    refine wp_loada (n := 2) H2 (cs := L[i].cs) (by repeat (first | exact List.Mem.head _ | apply List.Mem.tail)) (Nat.le_refl _) ?_
    refine wp_op e_eqF ?_
    refine wp_ret ?_
    show wp EM _ _ _
    unfold Try.a51x1
    refine wp_add64 (by omega) (by omega) (wp_ret (.inl ⟨rfl, L.length - (i + 1), by omega, i + 1, by simp [nth], by omega, rfl, H2.tl⟩))
  · repeat (first|refine zA ?_|refine zB rfl ?_|refine zC ?_|refine zD ?_|refine zE rfl ?_|refine zF ?_|refine zG ?_|refine zH ?_|refine zI ?_|refine zJ ?_|refine zK ?_|refine zL rfl ?_|refine zN rfl ?_)
    refine wp_ret (.inr ⟨by simp, ?_⟩)
    show wp EM _ _ _
    exact wp_ret ⟨rfl, rfl, H.grows⟩
variable {w : Nat} {x : Wl} {blk : List Own}
/-- a Tick that tells just these -/
theorem ticks_ok {v : AV} {L : List Fi} {to : Nat} (hv : Fct.sl v 1 (ints (numsF L)) ∈ ro) (hm : mayE x to = 0) (hL : dueL x to = L) (h : WRep w x blk) (H : Cx B0 W S (E ++ (blk ++ R)) ro) :
    wpC EM (.fn (.func 38) [] []) [.ptr w 0, I (to : Int), v] S fun r S' => r = B true ∧ ∃ blk', WRep w ⟨to, leftL x to⟩ blk' ∧ Cx B0 W S' (E ++ (blk' ++ R)) ro := by
  refine wpC_fn (b := Try.a38) rfl rfl ?_
  unfold Try.a38
  have hlen : L.length ≤ 256 := by
    have h1 := h.ok.len
    have h2 := List.length_filter_le (fun f : Fi => decide ((f.tm : Int) ≤ (to : Int))) x.L
    rw [← hL]; unfold dueL; omega
  refine wp_call (wpC_mono (tick_ok (to := (to : Int)) h H) fun r S1 ⟨u, blk1, hr, h1, H1⟩ => ?_)
  subst hr
  rw [hm]
  unfold tickX at h1
  unfold tickL at H1
  rw [if_pos hm] at h1 H1
  rw [hL] at H1
  have h1 : WRep w ⟨to, leftL x to⟩ blk1 := h1
  repeat (first|refine zA ?_|refine zB rfl ?_|refine zC ?_|refine zD ?_|refine zE rfl ?_|refine zF ?_|refine zG ?_|refine zH ?_|refine zI ?_|refine zJ ?_|refine zK ?_|refine zL rfl ?_|refine zN rfl ?_)
  refine wp_eql_t rfl ?_
  repeat (first|refine zA ?_|refine zB rfl ?_|refine zC ?_|refine zD ?_|refine zE rfl ?_|refine zF ?_|refine zG ?_|refine zH ?_|refine zI ?_|refine zJ ?_|refine zK ?_|refine zL rfl ?_|refine zN rfl ?_)
  try unfold Try.a38x1
  repeat (first|refine zA ?_|refine zB rfl ?_|refine zC ?_|refine zD ?_|refine zE rfl ?_|refine zF ?_|refine zG ?_|refine zH ?_|refine zI ?_|refine zJ ?_|refine zK ?_|refine zL rfl ?_|refine zN rfl ?_)
  refine wp_call (wpC_mono (fires_ok (L := L) hv (by omega) H1) fun v2 S2 H2 => ?_)
  repeat (first|refine zA ?_|refine zB rfl ?_|refine zC ?_|refine zD ?_|refine zE rfl ?_|refine zF ?_|refine zG ?_|refine zH ?_|refine zI ?_|refine zJ ?_|refine zK ?_|refine zL rfl ?_|refine zN rfl ?_)
  refine wp_callV H2 (sameF_ok (L := L) (H2.ownSl (n := 1) rfl) (H2.ownSl (n := 0) rfl) (by omega)) fun S3 H3 => ?_
  repeat (first|refine zA ?_|refine zB rfl ?_|refine zC ?_|refine zD ?_|refine zE rfl ?_|refine zF ?_|refine zG ?_|refine zH ?_|refine zI ?_|refine zJ ?_|refine zK ?_|refine zL rfl ?_|refine zN rfl ?_)
  refine wp_call (wpC_mono (now_ok (E := .sl v2 2 (fis L) :: .sl u 2 (fis L) :: E) h1 H3) fun r S4 ⟨hr, H4⟩ => ?_)
  subst hr
  repeat (first|refine zA ?_|refine zB rfl ?_|refine zC ?_|refine zD ?_|refine zE rfl ?_|refine zF ?_|refine zG ?_|refine zH ?_|refine zI ?_|refine zJ ?_|refine zK ?_|refine zL rfl ?_|refine zN rfl ?_)
  try unfold Try.a38x0
  repeat (first|refine zA ?_|refine zB rfl ?_|refine zC ?_|refine zD ?_|refine zE rfl ?_|refine zF ?_|refine zG ?_|refine zH ?_|refine zI ?_|refine zJ ?_|refine zK ?_|refine zL rfl ?_|refine zN rfl ?_)
  refine wp_eql_t rfl ?_
  repeat (first|refine zA ?_|refine zB rfl ?_|refine zC ?_|refine zD ?_|refine zE rfl ?_|refine zF ?_|refine zG ?_|refine zH ?_|refine zI ?_|refine zJ ?_|refine zK ?_|refine zL rfl ?_|refine zN rfl ?_)
  exact wp_ret ⟨rfl, rfl, blk1, h1, (H4.dropAt 0).dropAt 0⟩
end
end Go.Abs
namespace Go.Abs
open Go.Proofs
set_option maxRecDepth 100000
set_option linter.unusedVariables false
open Tsk (Tk tks tchk)
section
variable {B0 S : AH} {W : List Nat} {own E R : List Own} {ro : List Fct} {Q : Post} {k : AV → AC} {w : Nat} {x : Wl} {blk : List Own}
theorem wp_ptrNil {t id off : Nat} {n : Bool} (ht : typc EM.P t = 1) (h : wp EM (k (B n)) S Q) : wp EM (.op (.eq t n (.ptr id off) Np) k) S Q := wp_op (e_ptrNil ht) h
theorem wp_Set {id at' e : Int} {y : Wl} (he : setE x id at' = e) (hy : setX x id at' = y) (h : WRep w x blk) (H : Cx B0 W S (E ++ (blk ++ R)) ro)
    (hk : ∀ S blk', WRep w y blk' → Cx B0 W S (E ++ (blk' ++ R)) ro → wp EM (k (I e)) S Q) : wp EM (.call (.fn (.func 45) [] []) [.ptr w 0, I id, I at'] k) S Q :=
  wp_call (wpC_mono (set_ok h H) fun r S1 ⟨hr, blk1, h1, H1⟩ => by subst hr; rw [he]; rw [hy] at h1; exact hk _ _ h1 H1)
theorem wp_Drop {id e : Int} {y : Wl} (he : dropE x id = e) (hy : dropX x id = y) (h : WRep w x blk) (H : Cx B0 W S (E ++ (blk ++ R)) ro)
    (hk : ∀ S blk', WRep w y blk' → Cx B0 W S (E ++ (blk' ++ R)) ro → wp EM (k (I e)) S Q) : wp EM (.call (.fn (.func 47) [] []) [.ptr w 0, I id] k) S Q :=
  wp_call (wpC_mono (drop_ok h H) fun r S1 ⟨hr, blk1, h1, H1⟩ => by subst hr; rw [he]; rw [hy] at h1; exact hk _ _ h1 H1)
theorem wp_Place {id : Int} {r : AV} (he : placeR x id = r) (h : WRep w x blk) (H : Cx B0 W S (E ++ (blk ++ R)) ro) (hk : ∀ S, Cx B0 W S (E ++ (blk ++ R)) ro → wp EM (k r) S Q) : wp EM (.call (.fn (.func 59) [] []) [.ptr w 0, I id] k) S Q :=
  wp_call (wpC_mono (place_ok h H) fun r S1 ⟨hr, H1⟩ => by subst hr; rw [he]; exact hk _ H1)
theorem wp_Now (h : WRep w x blk) (H : Cx B0 W S (E ++ (blk ++ R)) ro) (hk : ∀ S, Cx B0 W S (E ++ (blk ++ R)) ro → wp EM (k (I x.now)) S Q) : wp EM (.call (.fn (.func 65) [] []) [.ptr w 0] k) S Q :=
  wp_call (wpC_mono (now_ok h H) fun r S1 ⟨hr, H1⟩ => by subst hr; exact hk _ H1)
/-- the chapter's wheel behind its first row -/
def X1 : Wl := ⟨100, [⟨3, 100⟩, ⟨1, 101⟩, ⟨2, 300⟩]⟩
theorem begun_ok (H : Cx B0 W S own ro) : wpC EM (.fn (.func 36) [] []) [] S fun r S' => ∃ w blk, r = .ptr w 0 ∧ WRep w X1 blk ∧ Cx B0 W S' (blk ++ own) ro := by
  refine wpC_fn (b := Try.a36) rfl rfl ?_
  unfold Try.a36
  refine wp_call (wpC_mono (new_ok H) fun r S2 q => ?_)
  rcases q with ⟨_, w, blk, rfl, h, H⟩ | ⟨hn, _⟩
  · replace H : Cx B0 W _ ([] ++ (blk ++ own)) ro := H
    repeat (first|refine zA ?_|refine zB rfl ?_|refine zC ?_|refine zD ?_|refine zE rfl ?_|refine zF ?_|refine zG ?_|refine zH ?_|refine zI ?_|refine zJ ?_|refine zK ?_|refine zL rfl ?_|refine zN rfl ?_)
    refine wp_neq_f rfl ?_
    repeat (first|refine zA ?_|refine zB rfl ?_|refine zC ?_|refine zD ?_|refine zE rfl ?_|refine zF ?_|refine zG ?_|refine zH ?_|refine zI ?_|refine zJ ?_|refine zK ?_|refine zL rfl ?_|refine zN rfl ?_)
    refine wp_ptrNil typW ?_
    try unfold Try.a36x6
    repeat (first|refine zA ?_|refine zB rfl ?_|refine zC ?_|refine zD ?_|refine zE rfl ?_|refine zF ?_|refine zG ?_|refine zH ?_|refine zI ?_|refine zJ ?_|refine zK ?_|refine zL rfl ?_|refine zN rfl ?_)
    refine wp_Set (y := ⟨100, [⟨3, 100⟩]⟩) (e := 0) rfl rfl h H fun S blk h H => ?_
    repeat (first|refine zA ?_|refine zB rfl ?_|refine zC ?_|refine zD ?_|refine zE rfl ?_|refine zF ?_|refine zG ?_|refine zH ?_|refine zI ?_|refine zJ ?_|refine zK ?_|refine zL rfl ?_|refine zN rfl ?_)
    refine wp_neq_f rfl ?_
    repeat (first|refine zA ?_|refine zB rfl ?_|refine zC ?_|refine zD ?_|refine zE rfl ?_|refine zF ?_|refine zG ?_|refine zH ?_|refine zI ?_|refine zJ ?_|refine zK ?_|refine zL rfl ?_|refine zN rfl ?_)
    try unfold Try.a36x5
    refine wp_Set (y := ⟨100, [⟨3, 100⟩, ⟨1, 115⟩]⟩) (e := 0) rfl rfl h H fun S blk h H => ?_
    repeat (first|refine zA ?_|refine zB rfl ?_|refine zC ?_|refine zD ?_|refine zE rfl ?_|refine zF ?_|refine zG ?_|refine zH ?_|refine zI ?_|refine zJ ?_|refine zK ?_|refine zL rfl ?_|refine zN rfl ?_)
    refine wp_neq_f rfl ?_
    repeat (first|refine zA ?_|refine zB rfl ?_|refine zC ?_|refine zD ?_|refine zE rfl ?_|refine zF ?_|refine zG ?_|refine zH ?_|refine zI ?_|refine zJ ?_|refine zK ?_|refine zL rfl ?_|refine zN rfl ?_)
    refine wp_Set (y := ⟨100, [⟨3, 100⟩, ⟨1, 115⟩, ⟨2, 300⟩]⟩) (e := 0) rfl rfl h H fun S blk h H => ?_
    repeat (first|refine zA ?_|refine zB rfl ?_|refine zC ?_|refine zD ?_|refine zE rfl ?_|refine zF ?_|refine zG ?_|refine zH ?_|refine zI ?_|refine zJ ?_|refine zK ?_|refine zL rfl ?_|refine zN rfl ?_)
    refine wp_neq_f rfl ?_
    try unfold Try.a36x4
    repeat (first|refine zA ?_|refine zB rfl ?_|refine zC ?_|refine zD ?_|refine zE rfl ?_|refine zF ?_|refine zG ?_|refine zH ?_|refine zI ?_|refine zJ ?_|refine zK ?_|refine zL rfl ?_|refine zN rfl ?_)
    refine wp_Set (y := X1) (e := 0) rfl rfl h H fun S blk h H => ?_
    repeat (first|refine zA ?_|refine zB rfl ?_|refine zC ?_|refine zD ?_|refine zE rfl ?_|refine zF ?_|refine zG ?_|refine zH ?_|refine zI ?_|refine zJ ?_|refine zK ?_|refine zL rfl ?_|refine zN rfl ?_)
    refine wp_neq_f rfl ?_
    repeat (first|refine zA ?_|refine zB rfl ?_|refine zC ?_|refine zD ?_|refine zE rfl ?_|refine zF ?_|refine zG ?_|refine zH ?_|refine zI ?_|refine zJ ?_|refine zK ?_|refine zL rfl ?_|refine zN rfl ?_)
    try unfold Try.a36x3
    refine wp_Set (y := X1) (e := 13) rfl rfl h H fun S blk h H => ?_
    repeat (first|refine zA ?_|refine zB rfl ?_|refine zC ?_|refine zD ?_|refine zE rfl ?_|refine zF ?_|refine zG ?_|refine zH ?_|refine zI ?_|refine zJ ?_|refine zK ?_|refine zL rfl ?_|refine zN rfl ?_)
    refine wp_neq_f rfl ?_
    repeat (first|refine zA ?_|refine zB rfl ?_|refine zC ?_|refine zD ?_|refine zE rfl ?_|refine zF ?_|refine zG ?_|refine zH ?_|refine zI ?_|refine zJ ?_|refine zK ?_|refine zL rfl ?_|refine zN rfl ?_)
    refine wp_call (wpC_mono (next_ok h H) fun r S3 ⟨hr, H⟩ => ?_)
    subst hr
    unfold nextR X1
    try unfold Try.a36x2
    repeat (first|refine zA ?_|refine zB rfl ?_|refine zC ?_|refine zD ?_|refine zE rfl ?_|refine zF ?_|refine zG ?_|refine zH ?_|refine zI ?_|refine zJ ?_|refine zK ?_|refine zL rfl ?_|refine zN rfl ?_)
    refine wp_neq_f rfl ?_
    repeat (first|refine zA ?_|refine zB rfl ?_|refine zC ?_|refine zD ?_|refine zE rfl ?_|refine zF ?_|refine zG ?_|refine zH ?_|refine zI ?_|refine zJ ?_|refine zK ?_|refine zL rfl ?_|refine zN rfl ?_)
    refine wp_op (v := B false) rfl ?_
    repeat (first|refine zA ?_|refine zB rfl ?_|refine zC ?_|refine zD ?_|refine zE rfl ?_|refine zF ?_|refine zG ?_|refine zH ?_|refine zI ?_|refine zJ ?_|refine zK ?_|refine zL rfl ?_|refine zN rfl ?_)
    try unfold Try.a36x1
    repeat (first|refine zA ?_|refine zB rfl ?_|refine zC ?_|refine zD ?_|refine zE rfl ?_|refine zF ?_|refine zG ?_|refine zH ?_|refine zI ?_|refine zJ ?_|refine zK ?_|refine zL rfl ?_|refine zN rfl ?_)
    refine wp_call (wpC_mono (list_ok h H) fun u S4 H => ?_)
    repeat (first|refine zA ?_|refine zB rfl ?_|refine zC ?_|refine zD ?_|refine zE rfl ?_|refine zF ?_|refine zG ?_|refine zH ?_|refine zI ?_|refine zJ ?_|refine zK ?_|refine zL rfl ?_|refine zN rfl ?_)
    refine wp_lits H (numsF X1.L) rfl rfl fun v S5 H => ?_
    repeat (first|refine zA ?_|refine zB rfl ?_|refine zC ?_|refine zD ?_|refine zE rfl ?_|refine zF ?_|refine zG ?_|refine zH ?_|refine zI ?_|refine zJ ?_|refine zK ?_|refine zL rfl ?_|refine zN rfl ?_)
    refine wp_call (wpC_mono (fires_ok (L := X1.L) (by repeat (first | exact List.Mem.head _ | apply List.Mem.tail)) (by decide) H) fun v2 S6 H => ?_)
    repeat (first|refine zA ?_|refine zB rfl ?_|refine zC ?_|refine zD ?_|refine zE rfl ?_|refine zF ?_|refine zG ?_|refine zH ?_|refine zI ?_|refine zJ ?_|refine zK ?_|refine zL rfl ?_|refine zN rfl ?_)
    refine wp_callV H (sameF_ok (L := X1.L) (H.ownSl (n := 1) rfl) (H.ownSl (n := 0) rfl) (by decide)) fun S7 H => ?_
    repeat (first|refine zA ?_|refine zB rfl ?_|refine zC ?_|refine zD ?_|refine zE rfl ?_|refine zF ?_|refine zG ?_|refine zH ?_|refine zI ?_|refine zJ ?_|refine zK ?_|refine zL rfl ?_|refine zN rfl ?_)
    refine wp_op (v := B false) rfl ?_
    try unfold Try.a36x0
    repeat (first|refine zA ?_|refine zB rfl ?_|refine zC ?_|refine zD ?_|refine zE rfl ?_|refine zF ?_|refine zG ?_|refine zH ?_|refine zI ?_|refine zJ ?_|refine zK ?_|refine zL rfl ?_|refine zN rfl ?_)
    exact wp_ret ⟨rfl, w, blk, rfl, h, ((H.dropAt 0).dropAt 0).tl⟩
  · exact absurd ⟨by omega, by omega⟩ hn
theorem flatT4 : flatT EM.P 2 106 = some [some .i64, some .i64, some .i64, some .i64] := by kernel_rfl
def TT : List Tk := [⟨1, 5, 10, 3⟩, ⟨2, 2, 7, 0⟩, ⟨1, 5, 4, 7⟩]
theorem run15 : runN TT 15 4097 ⟨0, [⟨0, 3⟩, ⟨2, 7⟩]⟩ [] = some (⟨0, [⟨2, 19⟩, ⟨0, 23⟩]⟩, [⟨0, 3⟩, ⟨2, 7⟩, ⟨2, 11⟩, ⟨0, 13⟩, ⟨2, 15⟩]) := by kernel_rfl
theorem runMax : (runN TT 1099511627776 4097 ⟨15, [⟨2, 19⟩, ⟨0, 23⟩]⟩ []).isNone = true := by decide +kernel
end
end Go.Abs
namespace Go.Abs
open Go.Proofs
set_option maxRecDepth 100000
set_option linter.unusedVariables false
open Tsk (Tk tks tchk)
section
variable {B0 S : AH} {W : List Nat} {own E R : List Own} {ro : List Fct} {Q : Post} {k : AV → AC} {w : Nat} {x : Wl} {blk : List Own}
theorem noneNil_ok {S : AH} : wpC EM (.fn (.func 41) [] []) [Np] S fun r S' => r = B true ∧ Grows S S' := by
  refine wpC_fn (b := Try.a41) rfl rfl ?_
  unfold Try.a41
  refine wp_op (v := B true) (S1 := S) (by kernel_rfl) ?_
  repeat (first|refine zA ?_|refine zB rfl ?_|refine zC ?_|refine zD ?_|refine zE rfl ?_|refine zF ?_|refine zG ?_|refine zH ?_|refine zI ?_|refine zJ ?_|refine zK ?_|refine zL rfl ?_|refine zN rfl ?_)
  try unfold Try.a41x0
  repeat (first|refine zA ?_|refine zB rfl ?_|refine zC ?_|refine zD ?_|refine zE rfl ?_|refine zF ?_|refine zG ?_|refine zH ?_|refine zI ?_|refine zJ ?_|refine zK ?_|refine zL rfl ?_|refine zN rfl ?_)
  exact wp_ret ⟨rfl, rfl, Grows.refl _⟩
theorem tickNil_ok {S : AH} {to : Int} : wpC EM (.fn (.func 49) [] []) [Np, I to] S fun r S' => r = .tup [Ns, I 1] ∧ Grows S S' := by
  refine wpC_fn (b := Try.a49) rfl rfl ?_
  unfold Try.a49
  have H : Cx S [] S [] [] := Cx.enter (by simp)
  refine wp_callV H noneNil_ok fun S1 H => ?_
  repeat (first|refine zA ?_|refine zB rfl ?_|refine zC ?_|refine zD ?_|refine zE rfl ?_|refine zF ?_|refine zG ?_|refine zH ?_|refine zI ?_|refine zJ ?_|refine zK ?_|refine zL rfl ?_|refine zN rfl ?_)
  exact wp_ret ⟨rfl, rfl, H.grows⟩
theorem awake_kn {S : AH} {Q : AV → AH → Prop} (h : Q (B true) S) : wpC EM (.fn (.func 7) [] []) [] S Q := wpC_kn rfl h
end
end Go.Abs
