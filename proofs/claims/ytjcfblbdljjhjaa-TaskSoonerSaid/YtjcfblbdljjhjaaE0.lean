/- functions of this cut: what they compute, in the abstract machine. Conditions: stated in each theorem -/
import Derived.Test.YtjcfblbdljjhjaaT
set_option linter.unusedVariables false
set_option linter.unusedSimpArgs false
namespace Go.Abs
open Go.Proofs
set_option maxRecDepth 100000
noncomputable def EM : Mach := ⟨Try.prog, Try.tbl, knOf [(10, .bool true), (6, .bool true)]⟩


structure Tk where
  kind : Int
  prio : Int
  every : Int
  first : Int
def Tk.cs (x : Tk) : List AV := [I x.kind, I x.prio, I x.every, I x.first]
def tks (l : List Tk) : List (List AV) := l.map Tk.cs
theorem tks_len (l : List Tk) : (tks l).length = l.length := List.length_map ..
theorem tks_get {l : List Tk} {i : Nat} (hi : i < l.length) : (tks l)[i]? = some (l[i].cs) := by simp [tks, hi]

/-- why a task may not be -/
def tone (x : Tk) : Int := if x.kind ≠ 1 ∧ x.kind ≠ 2 then 5 else
  if x.prio < 0 ∨ 254 < x.prio ∨ x.every < 0 ∨ (x.kind = 1 ∧ x.every < 1) ∨ 1099511627776 < x.every ∨ x.first < 0 ∨ 1099511627776 < x.first ∨ (x.kind = 2 ∧ x.first ≠ 0) then 3 else 0

set_option maxHeartbeats 4000000 in
theorem one_ok {S : AH} {x : Tk} : wpC EM (.fn (.func 12) [] []) [.agg x.cs] S fun r S' => r = I (tone x) ∧ Grows S S' := by
  refine wpC_fn (b := Try.a12) rfl rfl ?_
  have H : Cx S [] S [] [] := Cx.enter (by simp)
  unfold Try.a12
  refine wp_box H rfl fun b S1 H => ?_
  repeat' (first | (first | refine wp_gop_t ?_ | refine wp_gop_f rfl ?_ | refine wp_gop_u ?_ | refine wp_gcall_t ?_ | refine wp_gcall_f rfl ?_ | refine wp_gcall_u ?_ | refine wp_ite_t ?_ | refine wp_ite_f ?_ | refine wp_faddr ?_ | refine wp_nilchk ?_ | refine wp_op (o := .mv _) rfl ?_ | refine wp_op (o := .pick _ _ _) rfl ?_ | refine wp_op (o := .extract _ _) rfl ?_) | refine wp_bind ?_ | refine wp_load1 H (by repeat (first | exact List.Mem.head _ | apply List.Mem.tail)) rfl ?_ | (refine wp_ret ?_; show wp EM _ _ _) | refine wp_lss (fun _ => ?_) (fun _ => ?_) | refine wp_gtr (fun _ => ?_) (fun _ => ?_) | refine wp_leq (fun _ => ?_) (fun _ => ?_) | refine wp_geq (fun _ => ?_) (fun _ => ?_) | refine wp_eql (fun _ => ?_) (fun _ => ?_) | refine wp_neq (fun _ => ?_) (fun _ => ?_))
  all_goals first
    | exact wp_ret ⟨rfl, congrArg I (by unfold tone; split <;> (try split) <;> omega), H.grows⟩
set_option maxHeartbeats 4000000 in
theorem refOne_ok {S : AH} {x : Tk} : wpC EM (.fn (.func 13) [] []) [.agg x.cs] S fun r S' => r = I (tone x) ∧ Grows S S' := by
  refine wpC_fn (b := Try.a13) rfl rfl ?_
  have H : Cx S [] S [] [] := Cx.enter (by simp)
  unfold Try.a13
  refine wp_box H rfl fun b S1 H => ?_
  repeat' (first | (first | refine wp_gop_t ?_ | refine wp_gop_f rfl ?_ | refine wp_gop_u ?_ | refine wp_gcall_t ?_ | refine wp_gcall_f rfl ?_ | refine wp_gcall_u ?_ | refine wp_ite_t ?_ | refine wp_ite_f ?_ | refine wp_faddr ?_ | refine wp_nilchk ?_ | refine wp_op (o := .mv _) rfl ?_ | refine wp_op (o := .pick _ _ _) rfl ?_ | refine wp_op (o := .extract _ _) rfl ?_) | refine wp_bind ?_ | refine wp_load1 H (by repeat (first | exact List.Mem.head _ | apply List.Mem.tail)) rfl ?_ | (refine wp_ret ?_; show wp EM _ _ _) | refine wp_lss (fun _ => ?_) (fun _ => ?_) | refine wp_gtr (fun _ => ?_) (fun _ => ?_) | refine wp_leq (fun _ => ?_) (fun _ => ?_) | refine wp_geq (fun _ => ?_) (fun _ => ?_) | refine wp_eql (fun _ => ?_) (fun _ => ?_) | refine wp_neq (fun _ => ?_) (fun _ => ?_))
  all_goals first
    | exact wp_ret ⟨rfl, congrArg I (by unfold tone; split <;> (try split) <;> omega), H.grows⟩
end Go.Abs
namespace Go.Abs
open Go.Proofs
set_option maxRecDepth 100000
def tfirst : List Tk → Int
  | [] => 0
  | x :: l => if tone x = 0 then tfirst l else tone x
def tchk (l : List Tk) : Int := if 32 < l.length then 4 else tfirst l
theorem tfirst_drop {l : List Tk} {i : Nat} (hi : i < l.length) : tfirst (l.drop i) = if tone l[i] = 0 then tfirst (l.drop (i + 1)) else tone l[i] := by
  rw [List.drop_eq_getElem_cons hi]; rfl

theorem check_ok {S : AH} {v : AV} {l : List Tk} (hv : RoSl S v 4 (tks l)) : wpC EM (.fn (.func 14) [] []) [v] S fun r S' => r = I (tchk l) ∧ Grows S S' := by
  refine wpC_fn (b := Try.a14) rfl rfl ?_
  have H := Cx.ro1 hv
  unfold Try.a14
  refine wp_len H (by repeat (first | exact List.Mem.head _ | apply List.Mem.tail)) ?_
  rw [tks_len]
  unfold tchk
  refine wp_gtr (fun hlt => ?_) (fun hge => ?_)
  · repeat (first | refine wp_gop_t ?_ | refine wp_gop_f rfl ?_ | refine wp_gop_u ?_ | refine wp_gcall_t ?_ | refine wp_gcall_f rfl ?_ | refine wp_gcall_u ?_ | refine wp_ite_t ?_ | refine wp_ite_f ?_ | refine wp_faddr ?_ | refine wp_nilchk ?_ | refine wp_op (o := .mv _) rfl ?_ | refine wp_op (o := .pick _ _ _) rfl ?_ | refine wp_op (o := .extract _ _) rfl ?_)
    refine wp_ret ⟨rfl, ?_, H.grows⟩
    rw [if_pos (by omega)]; rfl
  · rw [if_neg (by omega)]
    repeat (first | refine wp_gop_t ?_ | refine wp_gop_f rfl ?_ | refine wp_gop_u ?_ | refine wp_gcall_t ?_ | refine wp_gcall_f rfl ?_ | refine wp_gcall_u ?_ | refine wp_ite_t ?_ | refine wp_ite_f ?_ | refine wp_faddr ?_ | refine wp_nilchk ?_ | refine wp_op (o := .mv _) rfl ?_ | refine wp_op (o := .pick _ _ _) rfl ?_ | refine wp_op (o := .extract _ _) rfl ?_)
    refine wp_len H (by repeat (first | exact List.Mem.head _ | apply List.Mem.tail)) ?_
    rw [tks_len]
    refine wp_bind (wp_loop (wpL_for l.length (fun i vs S1 => ∃ u : AV, vs = [I (i : Int), u] ∧ tfirst (l.drop i) = tfirst l ∧ Cx S [] S1 [] [.sl v 4 (tks l)]) ?_ ?_ ⟨_, rfl, rfl, H⟩))
    · rintro i vs S1 hlt ⟨u, rfl, hc, H⟩
      rw [tfirst_drop hlt] at hc
      refine wp_lss_t (by omega) ?_
      repeat (first | refine wp_gop_t ?_ | refine wp_gop_f rfl ?_ | refine wp_gop_u ?_ | refine wp_gcall_t ?_ | refine wp_gcall_f rfl ?_ | refine wp_gcall_u ?_ | refine wp_ite_t ?_ | refine wp_ite_f ?_ | refine wp_faddr ?_ | refine wp_nilchk ?_ | refine wp_op (o := .mv _) rfl ?_ | refine wp_op (o := .pick _ _ _) rfl ?_ | refine wp_op (o := .extract _ _) rfl ?_)
      refine wp_bind ?_
      refine wp_saddr (i := i) H (by repeat (first | exact List.Mem.head _ | apply List.Mem.tail)) (tks_get hlt) fun p off H => ?_
      refine wp_loada H (cs := l[i].cs) (by repeat (first | exact List.Mem.head _ | apply List.Mem.tail)) (Nat.le_of_ble_eq_true rfl) ?_
      refine wp_alloc H fun b S3 H => ?_
      refine wp_store H 0 rfl rfl rfl (Nat.le_of_ble_eq_true rfl) fun S4 H => ?_
      replace H : Cx S [] S4 [] [.pt b 0 l[i].cs, .pt p off l[i].cs, .sl v 4 (tks l)] := H.freeze (i := 0) (c := l[i].cs) rfl
      refine wp_loada H (cs := l[i].cs) (by repeat (first | exact List.Mem.head _ | apply List.Mem.tail)) (Nat.le_of_ble_eq_true rfl) ?_
      refine wp_callV H one_ok fun S5 H => ?_
      refine wp_neq (fun hne => ?_) (fun he => ?_)
      · rw [if_neg hne] at hc
        repeat (first | refine wp_gop_t ?_ | refine wp_gop_f rfl ?_ | refine wp_gop_u ?_ | refine wp_gcall_t ?_ | refine wp_gcall_f rfl ?_ | refine wp_gcall_u ?_ | refine wp_ite_t ?_ | refine wp_ite_f ?_ | refine wp_faddr ?_ | refine wp_nilchk ?_ | refine wp_op (o := .mv _) rfl ?_ | refine wp_op (o := .pick _ _ _) rfl ?_ | refine wp_op (o := .extract _ _) rfl ?_)
        exact wp_ret (.inr ⟨by simp, rfl, by rw [← hc]; rfl, H.grows⟩)
      · rw [if_pos he] at hc
        repeat (first | refine wp_gop_t ?_ | refine wp_gop_f rfl ?_ | refine wp_gop_u ?_ | refine wp_gcall_t ?_ | refine wp_gcall_f rfl ?_ | refine wp_gcall_u ?_ | refine wp_ite_t ?_ | refine wp_ite_f ?_ | refine wp_faddr ?_ | refine wp_nilchk ?_ | refine wp_op (o := .mv _) rfl ?_ | refine wp_op (o := .pick _ _ _) rfl ?_ | refine wp_op (o := .extract _ _) rfl ?_)
        refine wp_ret ?_
        show wp EM _ _ _
        exact wp_add64 (by omega) (by omega) (wp_ret (.inl ⟨rfl, _, rfl, hc, H.tl.tl⟩))
    · rintro vs S1 ⟨u, rfl, hc, H⟩
      refine wp_lss_f (by omega) ?_
      repeat (first | refine wp_gop_t ?_ | refine wp_gop_f rfl ?_ | refine wp_gop_u ?_ | refine wp_gcall_t ?_ | refine wp_gcall_f rfl ?_ | refine wp_gcall_u ?_ | refine wp_ite_t ?_ | refine wp_ite_f ?_ | refine wp_faddr ?_ | refine wp_nilchk ?_ | refine wp_op (o := .mv _) rfl ?_ | refine wp_op (o := .pick _ _ _) rfl ?_ | refine wp_op (o := .extract _ _) rfl ?_)
      refine wp_ret ⟨by simp, wp_ret ⟨rfl, ?_, H.grows⟩⟩
      rw [List.drop_length] at hc
      rw [← hc]; rfl
theorem refCheck_ok {S : AH} {v : AV} {l : List Tk} (hv : RoSl S v 4 (tks l)) : wpC EM (.fn (.func 15) [] []) [v] S fun r S' => r = I (tchk l) ∧ Grows S S' := by
  refine wpC_fn (b := Try.a15) rfl rfl ?_
  have H := Cx.ro1 hv
  unfold Try.a15
  refine wp_len H (by repeat (first | exact List.Mem.head _ | apply List.Mem.tail)) ?_
  rw [tks_len]
  unfold tchk
  refine wp_gtr (fun hlt => ?_) (fun hge => ?_)
  · repeat (first | refine wp_gop_t ?_ | refine wp_gop_f rfl ?_ | refine wp_gop_u ?_ | refine wp_gcall_t ?_ | refine wp_gcall_f rfl ?_ | refine wp_gcall_u ?_ | refine wp_ite_t ?_ | refine wp_ite_f ?_ | refine wp_faddr ?_ | refine wp_nilchk ?_ | refine wp_op (o := .mv _) rfl ?_ | refine wp_op (o := .pick _ _ _) rfl ?_ | refine wp_op (o := .extract _ _) rfl ?_)
    refine wp_ret ⟨rfl, ?_, H.grows⟩
    rw [if_pos (by omega)]; rfl
  · rw [if_neg (by omega)]
    repeat (first | refine wp_gop_t ?_ | refine wp_gop_f rfl ?_ | refine wp_gop_u ?_ | refine wp_gcall_t ?_ | refine wp_gcall_f rfl ?_ | refine wp_gcall_u ?_ | refine wp_ite_t ?_ | refine wp_ite_f ?_ | refine wp_faddr ?_ | refine wp_nilchk ?_ | refine wp_op (o := .mv _) rfl ?_ | refine wp_op (o := .pick _ _ _) rfl ?_ | refine wp_op (o := .extract _ _) rfl ?_)
    refine wp_bind (wp_loop (wpL_for l.length (fun i vs S1 => ∃ u : AV, vs = [I (i : Int), u] ∧ tfirst (l.drop i) = tfirst l ∧ Cx S [] S1 [] [.sl v 4 (tks l)]) ?_ ?_ ⟨_, rfl, rfl, H⟩))
    · rintro i vs S1 hlt ⟨u, rfl, hc, H⟩
      rw [tfirst_drop hlt] at hc
      refine wp_len H (by repeat (first | exact List.Mem.head _ | apply List.Mem.tail)) ?_
      rw [tks_len]
      refine wp_lss_t (by omega) ?_
      repeat (first | refine wp_gop_t ?_ | refine wp_gop_f rfl ?_ | refine wp_gop_u ?_ | refine wp_gcall_t ?_ | refine wp_gcall_f rfl ?_ | refine wp_gcall_u ?_ | refine wp_ite_t ?_ | refine wp_ite_f ?_ | refine wp_faddr ?_ | refine wp_nilchk ?_ | refine wp_op (o := .mv _) rfl ?_ | refine wp_op (o := .pick _ _ _) rfl ?_ | refine wp_op (o := .extract _ _) rfl ?_)
      refine wp_bind ?_
      refine wp_saddr (i := i) H (by repeat (first | exact List.Mem.head _ | apply List.Mem.tail)) (tks_get hlt) fun p off H => ?_
      refine wp_loada H (cs := l[i].cs) (by repeat (first | exact List.Mem.head _ | apply List.Mem.tail)) (Nat.le_of_ble_eq_true rfl) ?_
      refine wp_callV H refOne_ok fun S5 H => ?_
      refine wp_neq (fun hne => ?_) (fun he => ?_)
      · rw [if_neg hne] at hc
        repeat (first | refine wp_gop_t ?_ | refine wp_gop_f rfl ?_ | refine wp_gop_u ?_ | refine wp_gcall_t ?_ | refine wp_gcall_f rfl ?_ | refine wp_gcall_u ?_ | refine wp_ite_t ?_ | refine wp_ite_f ?_ | refine wp_faddr ?_ | refine wp_nilchk ?_ | refine wp_op (o := .mv _) rfl ?_ | refine wp_op (o := .pick _ _ _) rfl ?_ | refine wp_op (o := .extract _ _) rfl ?_)
        exact wp_ret (.inr ⟨by simp, rfl, by rw [← hc]; rfl, H.grows⟩)
      · rw [if_pos he] at hc
        repeat (first | refine wp_gop_t ?_ | refine wp_gop_f rfl ?_ | refine wp_gop_u ?_ | refine wp_gcall_t ?_ | refine wp_gcall_f rfl ?_ | refine wp_gcall_u ?_ | refine wp_ite_t ?_ | refine wp_ite_f ?_ | refine wp_faddr ?_ | refine wp_nilchk ?_ | refine wp_op (o := .mv _) rfl ?_ | refine wp_op (o := .pick _ _ _) rfl ?_ | refine wp_op (o := .extract _ _) rfl ?_)
        refine wp_ret ?_
        show wp EM _ _ _
        exact wp_add64 (by omega) (by omega) (wp_ret (.inl ⟨rfl, _, rfl, hc, H.tl⟩))
    · rintro vs S1 ⟨u, rfl, hc, H⟩
      refine wp_len H (by repeat (first | exact List.Mem.head _ | apply List.Mem.tail)) ?_
      rw [tks_len]
      refine wp_lss_f (by omega) ?_
      repeat (first | refine wp_gop_t ?_ | refine wp_gop_f rfl ?_ | refine wp_gop_u ?_ | refine wp_gcall_t ?_ | refine wp_gcall_f rfl ?_ | refine wp_gcall_u ?_ | refine wp_ite_t ?_ | refine wp_ite_f ?_ | refine wp_faddr ?_ | refine wp_nilchk ?_ | refine wp_op (o := .mv _) rfl ?_ | refine wp_op (o := .pick _ _ _) rfl ?_ | refine wp_op (o := .extract _ _) rfl ?_)
      refine wp_ret ⟨by simp, wp_ret ⟨rfl, ?_, H.grows⟩⟩
      rw [List.drop_length] at hc
      rw [← hc]; rfl

/-! times -/
def timed (x : Tk) : Bool := decide (x.kind = 1 ∧ tone x = 0)
structure TOk (f e : Int) : Prop where
  f0 : 0 ≤ f
  f1 : f ≤ 1099511627776
  e0 : 1 ≤ e
  e1 : e ≤ 1099511627776
theorem timed_ok {x : Tk} (h : timed x = true) : TOk x.first x.every := by
  unfold timed at h
  have h := of_decide_eq_true h
  obtain ⟨h1, h2⟩ := h
  unfold tone at h2
  rw [if_neg (by omega)] at h2
  split at h2
  · cases h2
  · exact ⟨by omega, by omega, by omega, by omega⟩
def cl (f e : Int) : AV := .agg [I f, I e]
def many (f e : Int) : Int := (1099511627776 - f) / e + 1
theorem many_bd {f e : Int} (h : TOk f e) : 1 ≤ many f e ∧ many f e ≤ 1099511627777 := by
  obtain ⟨h1, h2, h3, h4⟩ := h
  have a : 0 ≤ (1099511627776 - f) / e := Int.ediv_nonneg (by omega) (by omega)
  have b : (1099511627776 - f) / e ≤ 1099511627776 - f := Int.ediv_le_self _ (by omega)
  unfold many
  omega
theorem many_ok {S : AH} {f e : Int} (h : TOk f e) : wpC EM (.fn (.func 45) [] []) [cl f e] S fun r S' => r = I (many f e) ∧ Grows S S' := by
  refine wpC_fn (b := Try.a45) rfl rfl ?_
  have H : Cx S [] S [] [] := Cx.enter (by simp)
  unfold Try.a45
  have hb := many_bd h
  obtain ⟨h1, h2, h3, h4⟩ := h
  refine wp_box H rfl fun b S1 H => ?_
  repeat (first | refine wp_gop_t ?_ | refine wp_gop_f rfl ?_ | refine wp_gop_u ?_ | refine wp_gcall_t ?_ | refine wp_gcall_f rfl ?_ | refine wp_gcall_u ?_ | refine wp_ite_t ?_ | refine wp_ite_f ?_ | refine wp_faddr ?_ | refine wp_nilchk ?_ | refine wp_op (o := .mv _) rfl ?_ | refine wp_op (o := .pick _ _ _) rfl ?_ | refine wp_op (o := .extract _ _) rfl ?_)
  refine wp_load1 H (by repeat (first | exact List.Mem.head _ | apply List.Mem.tail)) rfl ?_
  refine wp_sub64 (by omega) (by omega) ?_
  repeat (first | refine wp_gop_t ?_ | refine wp_gop_f rfl ?_ | refine wp_gop_u ?_ | refine wp_gcall_t ?_ | refine wp_gcall_f rfl ?_ | refine wp_gcall_u ?_ | refine wp_ite_t ?_ | refine wp_ite_f ?_ | refine wp_faddr ?_ | refine wp_nilchk ?_ | refine wp_op (o := .mv _) rfl ?_ | refine wp_op (o := .pick _ _ _) rfl ?_ | refine wp_op (o := .extract _ _) rfl ?_)
  refine wp_load1 H (by repeat (first | exact List.Mem.head _ | apply List.Mem.tail)) rfl ?_
  have e1 : (1099511627776 - f).tdiv e = (1099511627776 - f) / e := Int.tdiv_eq_ediv_of_nonneg (by omega)
  unfold many at hb ⊢
  refine wp_quo (c := (1099511627776 - f) / e) (by omega) (by rw [e1]; exact wrap64 (by omega) (by omega)) ?_
  refine wp_add64 (by omega) (by omega) ?_
  exact wp_ret ⟨rfl, rfl, H.grows⟩
theorem refMany_ok {S : AH} {x : Tk} (h : TOk x.first x.every) : wpC EM (.fn (.func 46) [] []) [.agg x.cs] S fun r S' => r = I (many x.first x.every) ∧ Grows S S' := by
  refine wpC_fn (b := Try.a46) rfl rfl ?_
  have H : Cx S [] S [] [] := Cx.enter (by simp)
  unfold Try.a46
  have hb := many_bd h
  obtain ⟨h1, h2, h3, h4⟩ := h
  refine wp_box H rfl fun b S1 H => ?_
  repeat (first | refine wp_gop_t ?_ | refine wp_gop_f rfl ?_ | refine wp_gop_u ?_ | refine wp_gcall_t ?_ | refine wp_gcall_f rfl ?_ | refine wp_gcall_u ?_ | refine wp_ite_t ?_ | refine wp_ite_f ?_ | refine wp_faddr ?_ | refine wp_nilchk ?_ | refine wp_op (o := .mv _) rfl ?_ | refine wp_op (o := .pick _ _ _) rfl ?_ | refine wp_op (o := .extract _ _) rfl ?_)
  refine wp_load1 H (by repeat (first | exact List.Mem.head _ | apply List.Mem.tail)) rfl ?_
  refine wp_sub64 (by omega) (by omega) ?_
  repeat (first | refine wp_gop_t ?_ | refine wp_gop_f rfl ?_ | refine wp_gop_u ?_ | refine wp_gcall_t ?_ | refine wp_gcall_f rfl ?_ | refine wp_gcall_u ?_ | refine wp_ite_t ?_ | refine wp_ite_f ?_ | refine wp_faddr ?_ | refine wp_nilchk ?_ | refine wp_op (o := .mv _) rfl ?_ | refine wp_op (o := .pick _ _ _) rfl ?_ | refine wp_op (o := .extract _ _) rfl ?_)
  refine wp_load1 H (by repeat (first | exact List.Mem.head _ | apply List.Mem.tail)) rfl ?_
  have e1 : (1099511627776 - x.first).tdiv x.every = (1099511627776 - x.first) / x.every := Int.tdiv_eq_ediv_of_nonneg (by omega)
  unfold many at hb ⊢
  refine wp_quo (c := (1099511627776 - x.first) / x.every) (by omega) (by rw [e1]; exact wrap64 (by omega) (by omega)) ?_
  refine wp_add64 (by omega) (by omega) ?_
  exact wp_ret ⟨rfl, rfl, H.grows⟩
/-- the number of the first time that is not below a moment -/
def num (f e now : Int) : Int := if now ≤ f then 0 else (now - f) / e + (if (now - f) % e = 0 then 0 else 1)
theorem num_ceil {f e now : Int} (he : 1 ≤ e) (hn : f < now) : num f e now = (now - f + e - 1) / e := by
  unfold num
  rw [if_neg (by omega)]
  have h1 := Int.emod_add_mul_ediv (now - f) e
  have h2 := Int.emod_nonneg (now - f) (by omega : e ≠ 0)
  have h3 := Int.emod_lt_of_pos (now - f) (by omega : 0 < e)
  generalize (now - f) % e = r at h1 h2 h3 ⊢
  generalize (now - f) / e = q at h1 ⊢
  symm
  split
  · rename_i hr
    have : now - f + e - 1 = (e - 1) + e * q := by rw [hr] at h1; omega
    rw [this, Int.add_mul_ediv_left _ _ (by omega), Int.ediv_eq_zero_of_lt (by omega) (by omega)]
    omega
  · have : now - f + e - 1 = (r - 1) + e * (q + 1) := by rw [Int.mul_add]; omega
    rw [this, Int.add_mul_ediv_left _ _ (by omega), Int.ediv_eq_zero_of_lt (by omega) (by omega)]
    omega
theorem num_bd {f e now : Int} (he : 1 ≤ e) : 0 ≤ num f e now ∧ (f < now → num f e now ≤ now - f) := by
  by_cases h : now ≤ f
  · unfold num; rw [if_pos h]; constructor <;> omega
  · rw [num_ceil he (by omega)]
    refine ⟨Int.ediv_nonneg (by omega) (by omega), fun _ => ?_⟩
    have : (now - f + e - 1) / e < now - f + 1 := Int.ediv_lt_of_lt_mul (by omega) (by
      have : (now - f + 1) * e = (now - f) * e + e := by rw [Int.add_mul]; omega
      have h2 : (now - f) * 1 ≤ (now - f) * e := Int.mul_le_mul_of_nonneg_left he (by omega)
      omega)
    omega
def since (f e now : Int) : Int := if now ≤ f then 0 else if 1099511627776 < now then many f e else min (many f e) (num f e now)
/-- behind the last moment there is none -/
theorem num_most {f e : Int} (h : TOk f e) : num f e (1099511627776 + 1) = many f e := by
  obtain ⟨h1, h2, h3, h4⟩ := h
  rw [num_ceil h3 (by omega)]
  unfold many
  have : 1099511627776 + 1 - f + e - 1 = (1099511627776 - f) + e * 1 := by omega
  rw [this, Int.add_mul_ediv_left _ _ (by omega)]
theorem since_eq {f e now : Int} (h : TOk f e) : since f e now = min (many f e) (num f e (min now (1099511627776 + 1))) := by
  have hm := num_most h
  have hb := many_bd h
  unfold since
  split
  · rename_i hn
    have : num f e (min now (1099511627776 + 1)) = 0 := by unfold num; rw [if_pos (by have := h.f1; omega)]
    rw [this]; omega
  · split
    · rw [show min now (1099511627776 + 1) = 1099511627776 + 1 by omega, hm]; omega
    · rw [show min now (1099511627776 + 1) = now by omega]
theorem since_bd {f e now : Int} (h : TOk f e) : 0 ≤ since f e now ∧ since f e now ≤ many f e := by
  have := many_bd h
  have := (num_bd (f := f) (now := min now (1099511627776 + 1)) h.e0).1
  rw [since_eq h]; omega
end Go.Abs
namespace Go.Abs
open Go.Proofs
set_option maxRecDepth 100000
theorem e_min1 (a b : Int) : minmax1 false (I a) (I b) = some (I (min a b)) := by
  have : minmax1 false (I a) (I b) = some (I (if ltF b a then b else a)) := rfl
  rw [this, ltF_eq]
  congr 2
  by_cases h : b < a
  · simp [h]; omega
  · simp [h]; omega
theorem wp_min {M : Mach} {S : AH} {Q : Post} {k : AV → AC} {a b : Int} (h : wp M (k (I (min a b))) S Q) : wp M (.op (.minmax false [I a, I b]) k) S Q := wp_op (v := I (min a b)) (by
  show pur (minmax1 false (I a) (I b)) S = _
  rw [e_min1]; rfl) h
theorem wp_min3 {M : Mach} {S : AH} {Q : Post} {k : AV → AC} {a b c : Int} (h : wp M (k (I (min (min a b) c))) S Q) : wp M (.op (.minmax false [I a, I b, I c]) k) S Q := wp_op (v := I (min (min a b) c)) (by
  show pur ((minmax1 false (I a) (I b)).bind fun x => (minmax1 false x (I c)).bind some) S = _
  rw [e_min1]
  show pur ((minmax1 false (I (min a b)) (I c)).bind some) S = _
  rw [e_min1]; rfl) h
theorem wp_not {M : Mach} {S : AH} {Q : Post} {k : AV → AC} {b : Bool} (h : wp M (k (B (!b))) S Q) : wp M (.op (.un .not (B b)) k) S Q := wp_op (v := B (!b)) rfl h
theorem tk_beq {x : Tk} : ∀ y ∈ x.cs, AV.beq y y = true := by
  intro y hy
  simp only [Tk.cs, List.mem_cons, List.not_mem_nil, or_false] at hy
  rcases hy with rfl | rfl | rfl | rfl <;> exact beq_num
theorem cl_beq {f e : Int} : ∀ y ∈ [I f, I e], AV.beq y y = true := by
  intro y hy
  simp only [List.mem_cons, List.not_mem_nil, or_false] at hy
  rcases hy with rfl | rfl <;> exact beq_num

theorem of_ok {S : AH} {x : Tk} : wpC EM (.fn (.func 40) [] []) [.agg x.cs] S fun r S' => r = .tup [cl x.first x.every, B (timed x)] ∧ Grows S S' := by
  refine wpC_fn (b := Try.a40) rfl rfl ?_
  have H : Cx S [] S [] [] := Cx.enter (by simp)
  unfold Try.a40
  refine wp_fin ?_
  refine wp_box H rfl fun b S1 H => ?_
  refine wp_alloc H fun o S2 H => ?_
  repeat (first | refine wp_gop_t ?_ | refine wp_gop_f rfl ?_ | refine wp_gop_u ?_ | refine wp_gcall_t ?_ | refine wp_gcall_f rfl ?_ | refine wp_gcall_u ?_ | refine wp_ite_t ?_ | refine wp_ite_f ?_ | refine wp_faddr ?_ | refine wp_nilchk ?_ | refine wp_op (o := .mv _) rfl ?_ | refine wp_op (o := .pick _ _ _) rfl ?_ | refine wp_op (o := .extract _ _) rfl ?_)
  refine wp_load1 H (by repeat (first | exact List.Mem.head _ | apply List.Mem.tail)) rfl ?_
  repeat (first | refine wp_gop_t ?_ | refine wp_gop_f rfl ?_ | refine wp_gop_u ?_ | refine wp_gcall_t ?_ | refine wp_gcall_f rfl ?_ | refine wp_gcall_u ?_ | refine wp_ite_t ?_ | refine wp_ite_f ?_ | refine wp_faddr ?_ | refine wp_nilchk ?_ | refine wp_op (o := .mv _) rfl ?_ | refine wp_op (o := .pick _ _ _) rfl ?_ | refine wp_op (o := .extract _ _) rfl ?_)
  refine wp_load1 H (by repeat (first | exact List.Mem.head _ | apply List.Mem.tail)) rfl ?_
  refine wp_op (v := cl x.first x.every) rfl ?_
  repeat (first | refine wp_gop_t ?_ | refine wp_gop_f rfl ?_ | refine wp_gop_u ?_ | refine wp_gcall_t ?_ | refine wp_gcall_f rfl ?_ | refine wp_gcall_u ?_ | refine wp_ite_t ?_ | refine wp_ite_f ?_ | refine wp_faddr ?_ | refine wp_nilchk ?_ | refine wp_op (o := .mv _) rfl ?_ | refine wp_op (o := .pick _ _ _) rfl ?_ | refine wp_op (o := .extract _ _) rfl ?_)
  refine wp_load1 H (by repeat (first | exact List.Mem.head _ | apply List.Mem.tail)) rfl ?_
  have fin : ∀ S3 t, Cx S [] S3 [.obj o (.row [I 0, I 0])] [.pt b 0 x.cs] → timed x = t → wp EM (.op (.store 2 (.ptr o 0) (cl x.first x.every)) fun v15 => .ret .ret [.ptr o 0, B t]) S3 fun t vs S' => (t = .normal ∨ t = .ret) ∧ wp EM (.op (.load 2 true (nth vs 0)) fun v2 => .ret .ret [v2, (nth vs 1)]) S' fun t vs S' => t = .ret ∧ oneOf vs = .tup [cl x.first x.every, B (timed x)] ∧ Grows S S' := by
    intro S3 t H ht
    refine wp_store H 0 rfl rfl rfl (Nat.le_of_ble_eq_true rfl) fun S4 H => ?_
    refine wp_ret ⟨.inr rfl, ?_⟩
    refine wp_loadoa (n := 2) H 0 rfl (Nat.le_of_ble_eq_true rfl) ?_
    refine wp_ret ⟨rfl, ?_, H.grows⟩
    rw [ht]; rfl
  refine wp_eql (fun h1 => ?_) (fun h1 => ?_)
  · repeat (first | refine wp_gop_t ?_ | refine wp_gop_f rfl ?_ | refine wp_gop_u ?_ | refine wp_gcall_t ?_ | refine wp_gcall_f rfl ?_ | refine wp_gcall_u ?_ | refine wp_ite_t ?_ | refine wp_ite_f ?_ | refine wp_faddr ?_ | refine wp_nilchk ?_ | refine wp_op (o := .mv _) rfl ?_ | refine wp_op (o := .pick _ _ _) rfl ?_ | refine wp_op (o := .extract _ _) rfl ?_)
    refine wp_loada H (cs := x.cs) (by repeat (first | exact List.Mem.head _ | apply List.Mem.tail)) (Nat.le_of_ble_eq_true rfl) ?_
    repeat (first | refine wp_gop_t ?_ | refine wp_gop_f rfl ?_ | refine wp_gop_u ?_ | refine wp_gcall_t ?_ | refine wp_gcall_f rfl ?_ | refine wp_gcall_u ?_ | refine wp_ite_t ?_ | refine wp_ite_f ?_ | refine wp_faddr ?_ | refine wp_nilchk ?_ | refine wp_op (o := .mv _) rfl ?_ | refine wp_op (o := .pick _ _ _) rfl ?_ | refine wp_op (o := .extract _ _) rfl ?_)
    refine wp_callV H one_ok fun S3 H => ?_
    refine wp_chk1 (v := I x.first) H (cs := x.cs) (by repeat (first | exact List.Mem.head _ | apply List.Mem.tail)) rfl beq_num ?_
    refine wp_chk1 (v := I x.every) H (cs := x.cs) (by repeat (first | exact List.Mem.head _ | apply List.Mem.tail)) rfl beq_num ?_
    repeat (first | refine wp_gop_t ?_ | refine wp_gop_f rfl ?_ | refine wp_gop_u ?_ | refine wp_gcall_t ?_ | refine wp_gcall_f rfl ?_ | refine wp_gcall_u ?_ | refine wp_ite_t ?_ | refine wp_ite_f ?_ | refine wp_faddr ?_ | refine wp_nilchk ?_ | refine wp_op (o := .mv _) rfl ?_ | refine wp_op (o := .pick _ _ _) rfl ?_ | refine wp_op (o := .extract _ _) rfl ?_)
    refine wp_eql (fun h2 => ?_) (fun h2 => ?_)
    · repeat (first | refine wp_gop_t ?_ | refine wp_gop_f rfl ?_ | refine wp_gop_u ?_ | refine wp_gcall_t ?_ | refine wp_gcall_f rfl ?_ | refine wp_gcall_u ?_ | refine wp_ite_t ?_ | refine wp_ite_f ?_ | refine wp_faddr ?_ | refine wp_nilchk ?_ | refine wp_op (o := .mv _) rfl ?_ | refine wp_op (o := .pick _ _ _) rfl ?_ | refine wp_op (o := .extract _ _) rfl ?_)
      exact fin S3 _ H (decide_eq_true ⟨h1, h2⟩)
    · repeat (first | refine wp_gop_t ?_ | refine wp_gop_f rfl ?_ | refine wp_gop_u ?_ | refine wp_gcall_t ?_ | refine wp_gcall_f rfl ?_ | refine wp_gcall_u ?_ | refine wp_ite_t ?_ | refine wp_ite_f ?_ | refine wp_faddr ?_ | refine wp_nilchk ?_ | refine wp_op (o := .mv _) rfl ?_ | refine wp_op (o := .pick _ _ _) rfl ?_ | refine wp_op (o := .extract _ _) rfl ?_)
      exact fin S3 _ H (decide_eq_false fun h => h2 h.2)
  · repeat (first | refine wp_gop_t ?_ | refine wp_gop_f rfl ?_ | refine wp_gop_u ?_ | refine wp_gcall_t ?_ | refine wp_gcall_f rfl ?_ | refine wp_gcall_u ?_ | refine wp_ite_t ?_ | refine wp_ite_f ?_ | refine wp_faddr ?_ | refine wp_nilchk ?_ | refine wp_op (o := .mv _) rfl ?_ | refine wp_op (o := .pick _ _ _) rfl ?_ | refine wp_op (o := .extract _ _) rfl ?_)
    refine wp_chk1 (v := I x.first) H (cs := x.cs) (by repeat (first | exact List.Mem.head _ | apply List.Mem.tail)) rfl beq_num ?_
    refine wp_chk1 (v := I x.every) H (cs := x.cs) (by repeat (first | exact List.Mem.head _ | apply List.Mem.tail)) rfl beq_num ?_
    repeat (first | refine wp_gop_t ?_ | refine wp_gop_f rfl ?_ | refine wp_gop_u ?_ | refine wp_gcall_t ?_ | refine wp_gcall_f rfl ?_ | refine wp_gcall_u ?_ | refine wp_ite_t ?_ | refine wp_ite_f ?_ | refine wp_faddr ?_ | refine wp_nilchk ?_ | refine wp_op (o := .mv _) rfl ?_ | refine wp_op (o := .pick _ _ _) rfl ?_ | refine wp_op (o := .extract _ _) rfl ?_)
    exact fin S2 _ H (decide_eq_false fun h => h1 h.1)
theorem refTimed_ok {S : AH} {x : Tk} : wpC EM (.fn (.func 43) [] []) [.agg x.cs] S fun r S' => r = B (timed x) ∧ Grows S S' := by
  refine wpC_fn (b := Try.a43) rfl rfl ?_
  have H : Cx S [] S [] [] := Cx.enter (by simp)
  unfold Try.a43
  refine wp_box H rfl fun b S1 H => ?_
  refine wp_loada H (cs := x.cs) (by repeat (first | exact List.Mem.head _ | apply List.Mem.tail)) (Nat.le_of_ble_eq_true rfl) ?_
  refine wp_callV H refOne_ok fun S3 H => ?_
  refine wp_eql (fun h2 => ?_) (fun h2 => ?_)
  · repeat (first | refine wp_gop_t ?_ | refine wp_gop_f rfl ?_ | refine wp_gop_u ?_ | refine wp_gcall_t ?_ | refine wp_gcall_f rfl ?_ | refine wp_gcall_u ?_ | refine wp_ite_t ?_ | refine wp_ite_f ?_ | refine wp_faddr ?_ | refine wp_nilchk ?_ | refine wp_op (o := .mv _) rfl ?_ | refine wp_op (o := .pick _ _ _) rfl ?_ | refine wp_op (o := .extract _ _) rfl ?_)
    refine wp_load1 H (cs := x.cs) (by repeat (first | exact List.Mem.head _ | apply List.Mem.tail)) rfl ?_
    repeat (first | refine wp_gop_t ?_ | refine wp_gop_f rfl ?_ | refine wp_gop_u ?_ | refine wp_gcall_t ?_ | refine wp_gcall_f rfl ?_ | refine wp_gcall_u ?_ | refine wp_ite_t ?_ | refine wp_ite_f ?_ | refine wp_faddr ?_ | refine wp_nilchk ?_ | refine wp_op (o := .mv _) rfl ?_ | refine wp_op (o := .pick _ _ _) rfl ?_ | refine wp_op (o := .extract _ _) rfl ?_)
    refine wp_eql (fun h1 => ?_) (fun h1 => ?_)
    · repeat (first | refine wp_gop_t ?_ | refine wp_gop_f rfl ?_ | refine wp_gop_u ?_ | refine wp_gcall_t ?_ | refine wp_gcall_f rfl ?_ | refine wp_gcall_u ?_ | refine wp_ite_t ?_ | refine wp_ite_f ?_ | refine wp_faddr ?_ | refine wp_nilchk ?_ | refine wp_op (o := .mv _) rfl ?_ | refine wp_op (o := .pick _ _ _) rfl ?_ | refine wp_op (o := .extract _ _) rfl ?_)
      exact wp_ret ⟨rfl, by rw [show timed x = true from decide_eq_true ⟨h1, h2⟩]; rfl, H.grows⟩
    · repeat (first | refine wp_gop_t ?_ | refine wp_gop_f rfl ?_ | refine wp_gop_u ?_ | refine wp_gcall_t ?_ | refine wp_gcall_f rfl ?_ | refine wp_gcall_u ?_ | refine wp_ite_t ?_ | refine wp_ite_f ?_ | refine wp_faddr ?_ | refine wp_nilchk ?_ | refine wp_op (o := .mv _) rfl ?_ | refine wp_op (o := .pick _ _ _) rfl ?_ | refine wp_op (o := .extract _ _) rfl ?_)
      exact wp_ret ⟨rfl, by rw [show timed x = false from decide_eq_false fun h => h1 h.1]; rfl, H.grows⟩
  · repeat (first | refine wp_gop_t ?_ | refine wp_gop_f rfl ?_ | refine wp_gop_u ?_ | refine wp_gcall_t ?_ | refine wp_gcall_f rfl ?_ | refine wp_gcall_u ?_ | refine wp_ite_t ?_ | refine wp_ite_f ?_ | refine wp_faddr ?_ | refine wp_nilchk ?_ | refine wp_op (o := .mv _) rfl ?_ | refine wp_op (o := .pick _ _ _) rfl ?_ | refine wp_op (o := .extract _ _) rfl ?_)
    exact wp_ret ⟨rfl, by rw [show timed x = false from decide_eq_false fun h => h2 h.2]; rfl, H.grows⟩
theorem since_ok {S : AH} {f e now : Int} (h : TOk f e) : wpC EM (.fn (.func 42) [] []) [cl f e, I now] S fun r S' => r = I (since f e now) ∧ Grows S S' := by
  refine wpC_fn (b := Try.a42) rfl rfl ?_
  have H : Cx S [] S [] [] := Cx.enter (by simp)
  have hb := many_bd h
  have h4 := h
  obtain ⟨f0, f1, e0, e1⟩ := h4
  unfold Try.a42
  refine wp_box H rfl fun b S1 H => ?_
  refine wp_bind ?_
  repeat (first | refine wp_gop_t ?_ | refine wp_gop_f rfl ?_ | refine wp_gop_u ?_ | refine wp_gcall_t ?_ | refine wp_gcall_f rfl ?_ | refine wp_gcall_u ?_ | refine wp_ite_t ?_ | refine wp_ite_f ?_ | refine wp_faddr ?_ | refine wp_nilchk ?_ | refine wp_op (o := .mv _) rfl ?_ | refine wp_op (o := .pick _ _ _) rfl ?_ | refine wp_op (o := .extract _ _) rfl ?_)
  refine wp_load1 H (by repeat (first | exact List.Mem.head _ | apply List.Mem.tail)) rfl ?_
  unfold since
  refine wp_leq (fun h1 => ?_) (fun h1 => ?_)
  · rw [if_pos h1]
    repeat (first | refine wp_gop_t ?_ | refine wp_gop_f rfl ?_ | refine wp_gop_u ?_ | refine wp_gcall_t ?_ | refine wp_gcall_f rfl ?_ | refine wp_gcall_u ?_ | refine wp_ite_t ?_ | refine wp_ite_f ?_ | refine wp_faddr ?_ | refine wp_nilchk ?_ | refine wp_op (o := .mv _) rfl ?_ | refine wp_op (o := .pick _ _ _) rfl ?_ | refine wp_op (o := .extract _ _) rfl ?_)
    exact wp_ret ⟨rfl, rfl, H.grows⟩
  rw [if_neg (by omega)]
  repeat (first | refine wp_gop_t ?_ | refine wp_gop_f rfl ?_ | refine wp_gop_u ?_ | refine wp_gcall_t ?_ | refine wp_gcall_f rfl ?_ | refine wp_gcall_u ?_ | refine wp_ite_t ?_ | refine wp_ite_f ?_ | refine wp_faddr ?_ | refine wp_nilchk ?_ | refine wp_op (o := .mv _) rfl ?_ | refine wp_op (o := .pick _ _ _) rfl ?_ | refine wp_op (o := .extract _ _) rfl ?_)
  refine wp_gtr (fun h2 => ?_) (fun h2 => ?_)
  · rw [if_pos h2]
    repeat (first | refine wp_gop_t ?_ | refine wp_gop_f rfl ?_ | refine wp_gop_u ?_ | refine wp_gcall_t ?_ | refine wp_gcall_f rfl ?_ | refine wp_gcall_u ?_ | refine wp_ite_t ?_ | refine wp_ite_f ?_ | refine wp_faddr ?_ | refine wp_nilchk ?_ | refine wp_op (o := .mv _) rfl ?_ | refine wp_op (o := .pick _ _ _) rfl ?_ | refine wp_op (o := .extract _ _) rfl ?_)
    refine wp_loada H (cs := [I f, I e]) (by repeat (first | exact List.Mem.head _ | apply List.Mem.tail)) (Nat.le_of_ble_eq_true rfl) ?_
    refine wp_callV H (many_ok h) fun S3 H => ?_
    exact wp_ret ⟨rfl, rfl, H.grows⟩
  rw [if_neg (by omega)]
  repeat (first | refine wp_gop_t ?_ | refine wp_gop_f rfl ?_ | refine wp_gop_u ?_ | refine wp_gcall_t ?_ | refine wp_gcall_f rfl ?_ | refine wp_gcall_u ?_ | refine wp_ite_t ?_ | refine wp_ite_f ?_ | refine wp_faddr ?_ | refine wp_nilchk ?_ | refine wp_op (o := .mv _) rfl ?_ | refine wp_op (o := .pick _ _ _) rfl ?_ | refine wp_op (o := .extract _ _) rfl ?_)
  refine wp_ret ?_
  show wp EM _ _ _
  refine wp_loada H (cs := [I f, I e]) (by repeat (first | exact List.Mem.head _ | apply List.Mem.tail)) (Nat.le_of_ble_eq_true rfl) ?_
  repeat (first | refine wp_gop_t ?_ | refine wp_gop_f rfl ?_ | refine wp_gop_u ?_ | refine wp_gcall_t ?_ | refine wp_gcall_f rfl ?_ | refine wp_gcall_u ?_ | refine wp_ite_t ?_ | refine wp_ite_f ?_ | refine wp_faddr ?_ | refine wp_nilchk ?_ | refine wp_op (o := .mv _) rfl ?_ | refine wp_op (o := .pick _ _ _) rfl ?_ | refine wp_op (o := .extract _ _) rfl ?_)
  refine wp_load1 H (cs := [I f, I e]) (by repeat (first | exact List.Mem.head _ | apply List.Mem.tail)) rfl ?_
  refine wp_sub64 (by omega) (by omega) ?_
  repeat (first | refine wp_gop_t ?_ | refine wp_gop_f rfl ?_ | refine wp_gop_u ?_ | refine wp_gcall_t ?_ | refine wp_gcall_f rfl ?_ | refine wp_gcall_u ?_ | refine wp_ite_t ?_ | refine wp_ite_f ?_ | refine wp_faddr ?_ | refine wp_nilchk ?_ | refine wp_op (o := .mv _) rfl ?_ | refine wp_op (o := .pick _ _ _) rfl ?_ | refine wp_op (o := .extract _ _) rfl ?_)
  refine wp_load1 H (cs := [I f, I e]) (by repeat (first | exact List.Mem.head _ | apply List.Mem.tail)) rfl ?_
  refine wp_add64 (by omega) (by omega) ?_
  refine wp_sub64 (by omega) (by omega) ?_
  repeat (first | refine wp_gop_t ?_ | refine wp_gop_f rfl ?_ | refine wp_gop_u ?_ | refine wp_gcall_t ?_ | refine wp_gcall_f rfl ?_ | refine wp_gcall_u ?_ | refine wp_ite_t ?_ | refine wp_ite_f ?_ | refine wp_faddr ?_ | refine wp_nilchk ?_ | refine wp_op (o := .mv _) rfl ?_ | refine wp_op (o := .pick _ _ _) rfl ?_ | refine wp_op (o := .extract _ _) rfl ?_)
  refine wp_load1 H (cs := [I f, I e]) (by repeat (first | exact List.Mem.head _ | apply List.Mem.tail)) rfl ?_
  have hn := num_ceil (f := f) (now := now) e0 (by omega)
  have hnb := num_bd (f := f) (now := now) e0
  have ed : (now - f + e - 1).tdiv e = num f e now := by rw [hn]; exact Int.tdiv_eq_ediv_of_nonneg (by omega)
  refine wp_quo (c := num f e now) (by omega) (by rw [ed]; exact wrap64 (by omega) (by omega)) ?_
  refine wp_callV H (many_ok h) fun S3 H => ?_
  refine wp_chk1 (v := I f) H (cs := [I f, I e]) (by repeat (first | exact List.Mem.head _ | apply List.Mem.tail)) rfl beq_num ?_
  refine wp_chk1 (v := I e) H (cs := [I f, I e]) (by repeat (first | exact List.Mem.head _ | apply List.Mem.tail)) rfl beq_num ?_
  refine wp_chk1 (v := I e) H (cs := [I f, I e]) (by repeat (first | exact List.Mem.head _ | apply List.Mem.tail)) rfl beq_num ?_
  refine wp_min ?_
  exact wp_ret ⟨rfl, rfl, H.grows⟩
theorem refNumber_ok {S : AH} {x : Tk} {now : Int} (h : TOk x.first x.every) (hn : now ≤ 1099511627777) : wpC EM (.fn (.func 44) [] []) [.agg x.cs, I now] S fun r S' => r = I (num x.first x.every now) ∧ Grows S S' := by
  refine wpC_fn (b := Try.a44) rfl rfl ?_
  have H : Cx S [] S [] [] := Cx.enter (by simp)
  obtain ⟨f0, f1, e0, e1⟩ := h
  unfold Try.a44
  refine wp_box H rfl fun b S1 H => ?_
  repeat (first | refine wp_gop_t ?_ | refine wp_gop_f rfl ?_ | refine wp_gop_u ?_ | refine wp_gcall_t ?_ | refine wp_gcall_f rfl ?_ | refine wp_gcall_u ?_ | refine wp_ite_t ?_ | refine wp_ite_f ?_ | refine wp_faddr ?_ | refine wp_nilchk ?_ | refine wp_op (o := .mv _) rfl ?_ | refine wp_op (o := .pick _ _ _) rfl ?_ | refine wp_op (o := .extract _ _) rfl ?_)
  refine wp_load1 H (cs := x.cs) (by repeat (first | exact List.Mem.head _ | apply List.Mem.tail)) rfl ?_
  have hnb := num_bd (f := x.first) (now := now) e0
  unfold num at hnb ⊢
  refine wp_leq (fun h1 => ?_) (fun h1 => ?_)
  · rw [if_pos h1]
    repeat (first | refine wp_gop_t ?_ | refine wp_gop_f rfl ?_ | refine wp_gop_u ?_ | refine wp_gcall_t ?_ | refine wp_gcall_f rfl ?_ | refine wp_gcall_u ?_ | refine wp_ite_t ?_ | refine wp_ite_f ?_ | refine wp_faddr ?_ | refine wp_nilchk ?_ | refine wp_op (o := .mv _) rfl ?_ | refine wp_op (o := .pick _ _ _) rfl ?_ | refine wp_op (o := .extract _ _) rfl ?_)
    exact wp_ret ⟨rfl, rfl, H.grows⟩
  rw [if_neg (by omega)] at hnb ⊢
  have ed : (now - x.first).tdiv x.every = (now - x.first) / x.every := Int.tdiv_eq_ediv_of_nonneg (by omega)
  have em : (now - x.first).tmod x.every = (now - x.first) % x.every := Int.tmod_eq_emod_of_nonneg (by omega)
  have q0 : 0 ≤ (now - x.first) / x.every := Int.ediv_nonneg (by omega) (by omega)
  have q1 := Int.ediv_le_self x.every (by omega : 0 ≤ now - x.first)
  repeat (first | refine wp_gop_t ?_ | refine wp_gop_f rfl ?_ | refine wp_gop_u ?_ | refine wp_gcall_t ?_ | refine wp_gcall_f rfl ?_ | refine wp_gcall_u ?_ | refine wp_ite_t ?_ | refine wp_ite_f ?_ | refine wp_faddr ?_ | refine wp_nilchk ?_ | refine wp_op (o := .mv _) rfl ?_ | refine wp_op (o := .pick _ _ _) rfl ?_ | refine wp_op (o := .extract _ _) rfl ?_)
  refine wp_load1 H (cs := x.cs) (by repeat (first | exact List.Mem.head _ | apply List.Mem.tail)) rfl ?_
  refine wp_sub64 (by omega) (by omega) ?_
  repeat (first | refine wp_gop_t ?_ | refine wp_gop_f rfl ?_ | refine wp_gop_u ?_ | refine wp_gcall_t ?_ | refine wp_gcall_f rfl ?_ | refine wp_gcall_u ?_ | refine wp_ite_t ?_ | refine wp_ite_f ?_ | refine wp_faddr ?_ | refine wp_nilchk ?_ | refine wp_op (o := .mv _) rfl ?_ | refine wp_op (o := .pick _ _ _) rfl ?_ | refine wp_op (o := .extract _ _) rfl ?_)
  refine wp_load1 H (cs := x.cs) (by repeat (first | exact List.Mem.head _ | apply List.Mem.tail)) rfl ?_
  refine wp_quo (c := (now - x.first) / x.every) (by omega) (by rw [ed]; exact wrap64 (by omega) (by omega)) ?_
  repeat (first | refine wp_gop_t ?_ | refine wp_gop_f rfl ?_ | refine wp_gop_u ?_ | refine wp_gcall_t ?_ | refine wp_gcall_f rfl ?_ | refine wp_gcall_u ?_ | refine wp_ite_t ?_ | refine wp_ite_f ?_ | refine wp_faddr ?_ | refine wp_nilchk ?_ | refine wp_op (o := .mv _) rfl ?_ | refine wp_op (o := .pick _ _ _) rfl ?_ | refine wp_op (o := .extract _ _) rfl ?_)
  refine wp_load1 H (cs := x.cs) (by repeat (first | exact List.Mem.head _ | apply List.Mem.tail)) rfl ?_
  refine wp_sub64 (by omega) (by omega) ?_
  repeat (first | refine wp_gop_t ?_ | refine wp_gop_f rfl ?_ | refine wp_gop_u ?_ | refine wp_gcall_t ?_ | refine wp_gcall_f rfl ?_ | refine wp_gcall_u ?_ | refine wp_ite_t ?_ | refine wp_ite_f ?_ | refine wp_faddr ?_ | refine wp_nilchk ?_ | refine wp_op (o := .mv _) rfl ?_ | refine wp_op (o := .pick _ _ _) rfl ?_ | refine wp_op (o := .extract _ _) rfl ?_)
  refine wp_load1 H (cs := x.cs) (by repeat (first | exact List.Mem.head _ | apply List.Mem.tail)) rfl ?_
  refine wp_rem (by omega) ?_
  rw [em]
  refine wp_neq (fun h2 => ?_) (fun h2 => ?_)
  · rw [if_neg h2]
    refine wp_bind ?_
    repeat (first | refine wp_gop_t ?_ | refine wp_gop_f rfl ?_ | refine wp_gop_u ?_ | refine wp_gcall_t ?_ | refine wp_gcall_f rfl ?_ | refine wp_gcall_u ?_ | refine wp_ite_t ?_ | refine wp_ite_f ?_ | refine wp_faddr ?_ | refine wp_nilchk ?_ | refine wp_op (o := .mv _) rfl ?_ | refine wp_op (o := .pick _ _ _) rfl ?_ | refine wp_op (o := .extract _ _) rfl ?_)
    refine wp_add64 (by omega) (by omega) ?_
    refine wp_ret ?_
    show wp EM _ _ _
    exact wp_ret ⟨rfl, rfl, H.grows⟩
  · rw [if_pos h2]
    refine wp_bind ?_
    repeat (first | refine wp_gop_t ?_ | refine wp_gop_f rfl ?_ | refine wp_gop_u ?_ | refine wp_gcall_t ?_ | refine wp_gcall_f rfl ?_ | refine wp_gcall_u ?_ | refine wp_ite_t ?_ | refine wp_ite_f ?_ | refine wp_faddr ?_ | refine wp_nilchk ?_ | refine wp_op (o := .mv _) rfl ?_ | refine wp_op (o := .pick _ _ _) rfl ?_ | refine wp_op (o := .extract _ _) rfl ?_)
    refine wp_ret ?_
    show wp EM _ _ _
    refine wp_ret ⟨rfl, ?_, H.grows⟩
    rw [Int.add_zero]; rfl
end Go.Abs
namespace Go.Abs
open Go.Proofs
set_option maxRecDepth 100000
def count (x : Tk) (a b : Int) : Int := if timed x = true ∧ a < b then since x.first x.every b - since x.first x.every a else 0
def tat (x : Tk) (n : Int) : AV := if timed x = true ∧ 0 ≤ n ∧ n < many x.first x.every then .tup [I (x.first + n * x.every), B true] else .tup [I 0, B false]
/-- the numbers of the times lie where a number may -/
theorem time_bd {f e n : Int} (h : TOk f e) (h0 : 0 ≤ n) (h1 : n < many f e) : 0 ≤ n * e ∧ n * e ≤ 1099511627776 - f := by
  obtain ⟨f0, f1, e0, e1⟩ := h
  refine ⟨Int.mul_nonneg h0 (by omega), ?_⟩
  unfold many at h1
  have h2 : n * e ≤ (1099511627776 - f) / e * e := Int.mul_le_mul_of_nonneg_right (by omega) (by omega)
  have := Int.ediv_mul_le (1099511627776 - f) (by omega : e ≠ 0)
  omega

theorem count_ok {S : AH} {x : Tk} {a b : Int} : wpC EM (.fn (.func 22) [] []) [.agg x.cs, I a, I b] S fun r S' => r = I (count x a b) ∧ Grows S S' := by
  refine wpC_fn (b := Try.a22) rfl rfl ?_
  have H : Cx S [] S [] [] := Cx.enter (by simp)
  unfold Try.a22 count
  refine wp_box H rfl fun b0 S1 H => ?_
  refine wp_loada H (cs := x.cs) (by repeat (first | exact List.Mem.head _ | apply List.Mem.tail)) (Nat.le_of_ble_eq_true rfl) ?_
  refine wp_callV H of_ok fun S2 H => ?_
  repeat (first | refine wp_gop_t ?_ | refine wp_gop_f rfl ?_ | refine wp_gop_u ?_ | refine wp_gcall_t ?_ | refine wp_gcall_f rfl ?_ | refine wp_gcall_u ?_ | refine wp_ite_t ?_ | refine wp_ite_f ?_ | refine wp_faddr ?_ | refine wp_nilchk ?_ | refine wp_op (o := .mv _) rfl ?_ | refine wp_op (o := .pick _ _ _) rfl ?_ | refine wp_op (o := .extract _ _) rfl ?_)
  refine wp_alloc H fun o S3 H => ?_
  refine wp_store (v := cl x.first x.every) H 0 rfl rfl rfl (Nat.le_of_ble_eq_true rfl) fun S4 H => ?_
  replace H : Cx S [] S4 [] [.pt o 0 [I x.first, I x.every], .pt b0 0 x.cs] := H.freeze (i := 0) (c := [I x.first, I x.every]) rfl
  show wp EM (.op (.un .not (B (timed x))) _) S4 _
  refine wp_not ?_
  cases ht : timed x with
  | false =>
    repeat (first | refine wp_gop_t ?_ | refine wp_gop_f rfl ?_ | refine wp_gop_u ?_ | refine wp_gcall_t ?_ | refine wp_gcall_f rfl ?_ | refine wp_gcall_u ?_ | refine wp_ite_t ?_ | refine wp_ite_f ?_ | refine wp_faddr ?_ | refine wp_nilchk ?_ | refine wp_op (o := .mv _) rfl ?_ | refine wp_op (o := .pick _ _ _) rfl ?_ | refine wp_op (o := .extract _ _) rfl ?_)
    rw [if_neg (by simp)]
    exact wp_ret ⟨rfl, rfl, H.grows⟩
  | true =>
    have hT := timed_ok ht
    have sa := since_bd (now := a) hT
    have sb := since_bd (now := b) hT
    have hb := many_bd hT
    repeat (first | refine wp_gop_t ?_ | refine wp_gop_f rfl ?_ | refine wp_gop_u ?_ | refine wp_gcall_t ?_ | refine wp_gcall_f rfl ?_ | refine wp_gcall_u ?_ | refine wp_ite_t ?_ | refine wp_ite_f ?_ | refine wp_faddr ?_ | refine wp_nilchk ?_ | refine wp_op (o := .mv _) rfl ?_ | refine wp_op (o := .pick _ _ _) rfl ?_ | refine wp_op (o := .extract _ _) rfl ?_)
    refine wp_geq (fun hge => ?_) (fun hlt => ?_)
    · rw [if_neg (by omega)]
      repeat (first | refine wp_gop_t ?_ | refine wp_gop_f rfl ?_ | refine wp_gop_u ?_ | refine wp_gcall_t ?_ | refine wp_gcall_f rfl ?_ | refine wp_gcall_u ?_ | refine wp_ite_t ?_ | refine wp_ite_f ?_ | refine wp_faddr ?_ | refine wp_nilchk ?_ | refine wp_op (o := .mv _) rfl ?_ | refine wp_op (o := .pick _ _ _) rfl ?_ | refine wp_op (o := .extract _ _) rfl ?_)
      exact wp_ret ⟨rfl, rfl, H.grows⟩
    · rw [if_pos ⟨rfl, hlt⟩]
      repeat (first | refine wp_gop_t ?_ | refine wp_gop_f rfl ?_ | refine wp_gop_u ?_ | refine wp_gcall_t ?_ | refine wp_gcall_f rfl ?_ | refine wp_gcall_u ?_ | refine wp_ite_t ?_ | refine wp_ite_f ?_ | refine wp_faddr ?_ | refine wp_nilchk ?_ | refine wp_op (o := .mv _) rfl ?_ | refine wp_op (o := .pick _ _ _) rfl ?_ | refine wp_op (o := .extract _ _) rfl ?_)
      refine wp_loada H (cs := [I x.first, I x.every]) (by repeat (first | exact List.Mem.head _ | apply List.Mem.tail)) (Nat.le_of_ble_eq_true rfl) ?_
      refine wp_loada H (cs := [I x.first, I x.every]) (by repeat (first | exact List.Mem.head _ | apply List.Mem.tail)) (Nat.le_of_ble_eq_true rfl) ?_
      refine wp_callV H (since_ok hT) fun S5 H => ?_
      refine wp_chkn (j := 0) (cs := [I x.first, I x.every]) H (by repeat (first | exact List.Mem.head _ | apply List.Mem.tail)) (Nat.le_of_ble_eq_true rfl) rfl cl_beq ?_
      refine wp_callV H (since_ok hT) fun S6 H => ?_
      refine wp_sub64 (by omega) (by omega) ?_
      exact wp_ret ⟨rfl, rfl, H.grows⟩
theorem refCount_ok {S : AH} {x : Tk} {a b : Int} : wpC EM (.fn (.func 23) [] []) [.agg x.cs, I a, I b] S fun r S' => r = I (count x a b) ∧ Grows S S' := by
  refine wpC_fn (b := Try.a23) rfl rfl ?_
  have H : Cx S [] S [] [] := Cx.enter (by simp)
  unfold Try.a23 count
  refine wp_box H rfl fun b0 S1 H => ?_
  refine wp_loada H (cs := x.cs) (by repeat (first | exact List.Mem.head _ | apply List.Mem.tail)) (Nat.le_of_ble_eq_true rfl) ?_
  refine wp_callV H refTimed_ok fun S2 H => ?_
  refine wp_not ?_
  cases ht : timed x with
  | false =>
    repeat (first | refine wp_gop_t ?_ | refine wp_gop_f rfl ?_ | refine wp_gop_u ?_ | refine wp_gcall_t ?_ | refine wp_gcall_f rfl ?_ | refine wp_gcall_u ?_ | refine wp_ite_t ?_ | refine wp_ite_f ?_ | refine wp_faddr ?_ | refine wp_nilchk ?_ | refine wp_op (o := .mv _) rfl ?_ | refine wp_op (o := .pick _ _ _) rfl ?_ | refine wp_op (o := .extract _ _) rfl ?_)
    rw [if_neg (by simp)]
    exact wp_ret ⟨rfl, rfl, H.grows⟩
  | true =>
    have hT := timed_ok ht
    have hb := many_bd hT
    repeat (first | refine wp_gop_t ?_ | refine wp_gop_f rfl ?_ | refine wp_gop_u ?_ | refine wp_gcall_t ?_ | refine wp_gcall_f rfl ?_ | refine wp_gcall_u ?_ | refine wp_ite_t ?_ | refine wp_ite_f ?_ | refine wp_faddr ?_ | refine wp_nilchk ?_ | refine wp_op (o := .mv _) rfl ?_ | refine wp_op (o := .pick _ _ _) rfl ?_ | refine wp_op (o := .extract _ _) rfl ?_)
    refine wp_geq (fun hge => ?_) (fun hlt => ?_)
    · rw [if_neg (by omega)]
      repeat (first | refine wp_gop_t ?_ | refine wp_gop_f rfl ?_ | refine wp_gop_u ?_ | refine wp_gcall_t ?_ | refine wp_gcall_f rfl ?_ | refine wp_gcall_u ?_ | refine wp_ite_t ?_ | refine wp_ite_f ?_ | refine wp_faddr ?_ | refine wp_nilchk ?_ | refine wp_op (o := .mv _) rfl ?_ | refine wp_op (o := .pick _ _ _) rfl ?_ | refine wp_op (o := .extract _ _) rfl ?_)
      exact wp_ret ⟨rfl, rfl, H.grows⟩
    · rw [if_pos ⟨rfl, hlt⟩]
      repeat (first | refine wp_gop_t ?_ | refine wp_gop_f rfl ?_ | refine wp_gop_u ?_ | refine wp_gcall_t ?_ | refine wp_gcall_f rfl ?_ | refine wp_gcall_u ?_ | refine wp_ite_t ?_ | refine wp_ite_f ?_ | refine wp_faddr ?_ | refine wp_nilchk ?_ | refine wp_op (o := .mv _) rfl ?_ | refine wp_op (o := .pick _ _ _) rfl ?_ | refine wp_op (o := .extract _ _) rfl ?_)
      refine wp_gtr (fun hm => ?_) (fun hm => ?_)
      · repeat (first | refine wp_gop_t ?_ | refine wp_gop_f rfl ?_ | refine wp_gop_u ?_ | refine wp_gcall_t ?_ | refine wp_gcall_f rfl ?_ | refine wp_gcall_u ?_ | refine wp_ite_t ?_ | refine wp_ite_f ?_ | refine wp_faddr ?_ | refine wp_nilchk ?_ | refine wp_op (o := .mv _) rfl ?_ | refine wp_op (o := .pick _ _ _) rfl ?_ | refine wp_op (o := .extract _ _) rfl ?_)
        refine wp_ret ⟨rfl, ?_, H.grows⟩
        have e1 : since x.first x.every a = many x.first x.every := by unfold since; rw [if_neg (by have := hT.f1; omega), if_pos hm]
        have e2 : since x.first x.every b = many x.first x.every := by unfold since; rw [if_neg (by have := hT.f1; omega), if_pos (by omega)]
        rw [e1, e2, Int.sub_self]; rfl
      · repeat (first | refine wp_gop_t ?_ | refine wp_gop_f rfl ?_ | refine wp_gop_u ?_ | refine wp_gcall_t ?_ | refine wp_gcall_f rfl ?_ | refine wp_gcall_u ?_ | refine wp_ite_t ?_ | refine wp_ite_f ?_ | refine wp_faddr ?_ | refine wp_nilchk ?_ | refine wp_op (o := .mv _) rfl ?_ | refine wp_op (o := .pick _ _ _) rfl ?_ | refine wp_op (o := .extract _ _) rfl ?_)
        refine wp_loada H (cs := x.cs) (by repeat (first | exact List.Mem.head _ | apply List.Mem.tail)) (Nat.le_of_ble_eq_true rfl) ?_
        refine wp_loada H (cs := x.cs) (by repeat (first | exact List.Mem.head _ | apply List.Mem.tail)) (Nat.le_of_ble_eq_true rfl) ?_
        refine wp_min ?_
        refine wp_loada H (cs := x.cs) (by repeat (first | exact List.Mem.head _ | apply List.Mem.tail)) (Nat.le_of_ble_eq_true rfl) ?_
        refine wp_loada H (cs := x.cs) (by repeat (first | exact List.Mem.head _ | apply List.Mem.tail)) (Nat.le_of_ble_eq_true rfl) ?_
        refine wp_callV H (refMany_ok hT) fun S3 H => ?_
        refine wp_chkn (j := 0) (cs := x.cs) H (by repeat (first | exact List.Mem.head _ | apply List.Mem.tail)) (Nat.le_of_ble_eq_true rfl) rfl tk_beq ?_
        refine wp_chkn (j := 0) (cs := x.cs) H (by repeat (first | exact List.Mem.head _ | apply List.Mem.tail)) (Nat.le_of_ble_eq_true rfl) rfl tk_beq ?_
        refine wp_chkn (j := 0) (cs := x.cs) H (by repeat (first | exact List.Mem.head _ | apply List.Mem.tail)) (Nat.le_of_ble_eq_true rfl) rfl tk_beq ?_
        refine wp_callV H (refNumber_ok hT (by omega)) fun S4 H => ?_
        refine wp_chkn (j := 0) (cs := x.cs) H (by repeat (first | exact List.Mem.head _ | apply List.Mem.tail)) (Nat.le_of_ble_eq_true rfl) rfl tk_beq ?_
        refine wp_chkn (j := 0) (cs := x.cs) H (by repeat (first | exact List.Mem.head _ | apply List.Mem.tail)) (Nat.le_of_ble_eq_true rfl) rfl tk_beq ?_
        refine wp_min ?_
        refine wp_callV H (refMany_ok hT) fun S5 H => ?_
        refine wp_chkn (j := 0) (cs := x.cs) H (by repeat (first | exact List.Mem.head _ | apply List.Mem.tail)) (Nat.le_of_ble_eq_true rfl) rfl tk_beq ?_
        refine wp_callV H (refNumber_ok hT (by omega)) fun S6 H => ?_
        refine wp_min ?_
        have ea : since x.first x.every a = min (many x.first x.every) (num x.first x.every a) := by rw [since_eq hT]; congr 2; omega
        have eb : since x.first x.every b = min (many x.first x.every) (num x.first x.every (min b 1099511627777)) := since_eq hT
        have sa := since_bd (now := a) hT
        have sb := since_bd (now := b) hT
        rw [← ea, ← eb]
        refine wp_sub64 (by omega) (by omega) ?_
        exact wp_ret ⟨rfl, rfl, H.grows⟩
theorem at_ok {S : AH} {x : Tk} {n : Int} : wpC EM (.fn (.func 19) [] []) [.agg x.cs, I n] S fun r S' => r = tat x n ∧ Grows S S' := by
  refine wpC_fn (b := Try.a19) rfl rfl ?_
  have H : Cx S [] S [] [] := Cx.enter (by simp)
  unfold Try.a19 tat
  refine wp_box H rfl fun b0 S1 H => ?_
  refine wp_loada H (cs := x.cs) (by repeat (first | exact List.Mem.head _ | apply List.Mem.tail)) (Nat.le_of_ble_eq_true rfl) ?_
  refine wp_callV H of_ok fun S2 H => ?_
  repeat (first | refine wp_gop_t ?_ | refine wp_gop_f rfl ?_ | refine wp_gop_u ?_ | refine wp_gcall_t ?_ | refine wp_gcall_f rfl ?_ | refine wp_gcall_u ?_ | refine wp_ite_t ?_ | refine wp_ite_f ?_ | refine wp_faddr ?_ | refine wp_nilchk ?_ | refine wp_op (o := .mv _) rfl ?_ | refine wp_op (o := .pick _ _ _) rfl ?_ | refine wp_op (o := .extract _ _) rfl ?_)
  refine wp_alloc H fun o S3 H => ?_
  refine wp_store (v := cl x.first x.every) H 0 rfl rfl rfl (Nat.le_of_ble_eq_true rfl) fun S4 H => ?_
  replace H : Cx S [] S4 [] [.pt o 0 [I x.first, I x.every], .pt b0 0 x.cs] := H.freeze (i := 0) (c := [I x.first, I x.every]) rfl
  show wp EM (.op (.un .not (B (timed x))) _) S4 _
  refine wp_not ?_
  cases ht : timed x with
  | false =>
    repeat (first | refine wp_gop_t ?_ | refine wp_gop_f rfl ?_ | refine wp_gop_u ?_ | refine wp_gcall_t ?_ | refine wp_gcall_f rfl ?_ | refine wp_gcall_u ?_ | refine wp_ite_t ?_ | refine wp_ite_f ?_ | refine wp_faddr ?_ | refine wp_nilchk ?_ | refine wp_op (o := .mv _) rfl ?_ | refine wp_op (o := .pick _ _ _) rfl ?_ | refine wp_op (o := .extract _ _) rfl ?_)
    rw [if_neg (by simp)]
    exact wp_ret ⟨rfl, rfl, H.grows⟩
  | true =>
    have hT := timed_ok ht
    have hb := many_bd hT
    repeat (first | refine wp_gop_t ?_ | refine wp_gop_f rfl ?_ | refine wp_gop_u ?_ | refine wp_gcall_t ?_ | refine wp_gcall_f rfl ?_ | refine wp_gcall_u ?_ | refine wp_ite_t ?_ | refine wp_ite_f ?_ | refine wp_faddr ?_ | refine wp_nilchk ?_ | refine wp_op (o := .mv _) rfl ?_ | refine wp_op (o := .pick _ _ _) rfl ?_ | refine wp_op (o := .extract _ _) rfl ?_)
    refine wp_lss (fun h0 => ?_) (fun h0 => ?_)
    · rw [if_neg (by omega)]
      repeat (first | refine wp_gop_t ?_ | refine wp_gop_f rfl ?_ | refine wp_gop_u ?_ | refine wp_gcall_t ?_ | refine wp_gcall_f rfl ?_ | refine wp_gcall_u ?_ | refine wp_ite_t ?_ | refine wp_ite_f ?_ | refine wp_faddr ?_ | refine wp_nilchk ?_ | refine wp_op (o := .mv _) rfl ?_ | refine wp_op (o := .pick _ _ _) rfl ?_ | refine wp_op (o := .extract _ _) rfl ?_)
      exact wp_ret ⟨rfl, rfl, H.grows⟩
    · repeat (first | refine wp_gop_t ?_ | refine wp_gop_f rfl ?_ | refine wp_gop_u ?_ | refine wp_gcall_t ?_ | refine wp_gcall_f rfl ?_ | refine wp_gcall_u ?_ | refine wp_ite_t ?_ | refine wp_ite_f ?_ | refine wp_faddr ?_ | refine wp_nilchk ?_ | refine wp_op (o := .mv _) rfl ?_ | refine wp_op (o := .pick _ _ _) rfl ?_ | refine wp_op (o := .extract _ _) rfl ?_)
      refine wp_loada H (cs := [I x.first, I x.every]) (by repeat (first | exact List.Mem.head _ | apply List.Mem.tail)) (Nat.le_of_ble_eq_true rfl) ?_
      repeat (first | refine wp_gop_t ?_ | refine wp_gop_f rfl ?_ | refine wp_gop_u ?_ | refine wp_gcall_t ?_ | refine wp_gcall_f rfl ?_ | refine wp_gcall_u ?_ | refine wp_ite_t ?_ | refine wp_ite_f ?_ | refine wp_faddr ?_ | refine wp_nilchk ?_ | refine wp_op (o := .mv _) rfl ?_ | refine wp_op (o := .pick _ _ _) rfl ?_ | refine wp_op (o := .extract _ _) rfl ?_)
      refine wp_callV H (many_ok hT) fun S5 H => ?_
      repeat (first | refine wp_gop_t ?_ | refine wp_gop_f rfl ?_ | refine wp_gop_u ?_ | refine wp_gcall_t ?_ | refine wp_gcall_f rfl ?_ | refine wp_gcall_u ?_ | refine wp_ite_t ?_ | refine wp_ite_f ?_ | refine wp_faddr ?_ | refine wp_nilchk ?_ | refine wp_op (o := .mv _) rfl ?_ | refine wp_op (o := .pick _ _ _) rfl ?_ | refine wp_op (o := .extract _ _) rfl ?_)
      refine wp_geq (fun hge => ?_) (fun hlt => ?_)
      · rw [if_neg (by omega)]
        repeat (first | refine wp_gop_t ?_ | refine wp_gop_f rfl ?_ | refine wp_gop_u ?_ | refine wp_gcall_t ?_ | refine wp_gcall_f rfl ?_ | refine wp_gcall_u ?_ | refine wp_ite_t ?_ | refine wp_ite_f ?_ | refine wp_faddr ?_ | refine wp_nilchk ?_ | refine wp_op (o := .mv _) rfl ?_ | refine wp_op (o := .pick _ _ _) rfl ?_ | refine wp_op (o := .extract _ _) rfl ?_)
        exact wp_ret ⟨rfl, rfl, H.grows⟩
      · rw [if_pos ⟨rfl, h0, hlt⟩]
        have hbd := time_bd hT h0 hlt
        have hf0 := hT.f0
        have hf1 := hT.f1
        repeat (first | refine wp_gop_t ?_ | refine wp_gop_f rfl ?_ | refine wp_gop_u ?_ | refine wp_gcall_t ?_ | refine wp_gcall_f rfl ?_ | refine wp_gcall_u ?_ | refine wp_ite_t ?_ | refine wp_ite_f ?_ | refine wp_faddr ?_ | refine wp_nilchk ?_ | refine wp_op (o := .mv _) rfl ?_ | refine wp_op (o := .pick _ _ _) rfl ?_ | refine wp_op (o := .extract _ _) rfl ?_)
        refine wp_load1 H (cs := [I x.first, I x.every]) (by repeat (first | exact List.Mem.head _ | apply List.Mem.tail)) rfl ?_
        repeat (first | refine wp_gop_t ?_ | refine wp_gop_f rfl ?_ | refine wp_gop_u ?_ | refine wp_gcall_t ?_ | refine wp_gcall_f rfl ?_ | refine wp_gcall_u ?_ | refine wp_ite_t ?_ | refine wp_ite_f ?_ | refine wp_faddr ?_ | refine wp_nilchk ?_ | refine wp_op (o := .mv _) rfl ?_ | refine wp_op (o := .pick _ _ _) rfl ?_ | refine wp_op (o := .extract _ _) rfl ?_)
        refine wp_load1 H (cs := [I x.first, I x.every]) (by repeat (first | exact List.Mem.head _ | apply List.Mem.tail)) rfl ?_
        refine wp_mul (c := n * x.every) (wrap64 (by omega) (by omega)) ?_
        refine wp_add64 (by omega) (by omega) ?_
        exact wp_ret ⟨rfl, rfl, H.grows⟩
theorem refAt_ok {S : AH} {x : Tk} {n : Int} : wpC EM (.fn (.func 20) [] []) [.agg x.cs, I n] S fun r S' => r = tat x n ∧ Grows S S' := by
  refine wpC_fn (b := Try.a20) rfl rfl ?_
  have H : Cx S [] S [] [] := Cx.enter (by simp)
  unfold Try.a20 tat
  refine wp_box H rfl fun b0 S1 H => ?_
  refine wp_loada H (cs := x.cs) (by repeat (first | exact List.Mem.head _ | apply List.Mem.tail)) (Nat.le_of_ble_eq_true rfl) ?_
  refine wp_callV H refTimed_ok fun S2 H => ?_
  refine wp_not ?_
  cases ht : timed x with
  | false =>
    repeat (first | refine wp_gop_t ?_ | refine wp_gop_f rfl ?_ | refine wp_gop_u ?_ | refine wp_gcall_t ?_ | refine wp_gcall_f rfl ?_ | refine wp_gcall_u ?_ | refine wp_ite_t ?_ | refine wp_ite_f ?_ | refine wp_faddr ?_ | refine wp_nilchk ?_ | refine wp_op (o := .mv _) rfl ?_ | refine wp_op (o := .pick _ _ _) rfl ?_ | refine wp_op (o := .extract _ _) rfl ?_)
    rw [if_neg (by simp)]
    exact wp_ret ⟨rfl, rfl, H.grows⟩
  | true =>
    have hT := timed_ok ht
    have hb := many_bd hT
    repeat (first | refine wp_gop_t ?_ | refine wp_gop_f rfl ?_ | refine wp_gop_u ?_ | refine wp_gcall_t ?_ | refine wp_gcall_f rfl ?_ | refine wp_gcall_u ?_ | refine wp_ite_t ?_ | refine wp_ite_f ?_ | refine wp_faddr ?_ | refine wp_nilchk ?_ | refine wp_op (o := .mv _) rfl ?_ | refine wp_op (o := .pick _ _ _) rfl ?_ | refine wp_op (o := .extract _ _) rfl ?_)
    refine wp_lss (fun h0 => ?_) (fun h0 => ?_)
    · rw [if_neg (by omega)]
      repeat (first | refine wp_gop_t ?_ | refine wp_gop_f rfl ?_ | refine wp_gop_u ?_ | refine wp_gcall_t ?_ | refine wp_gcall_f rfl ?_ | refine wp_gcall_u ?_ | refine wp_ite_t ?_ | refine wp_ite_f ?_ | refine wp_faddr ?_ | refine wp_nilchk ?_ | refine wp_op (o := .mv _) rfl ?_ | refine wp_op (o := .pick _ _ _) rfl ?_ | refine wp_op (o := .extract _ _) rfl ?_)
      exact wp_ret ⟨rfl, rfl, H.grows⟩
    · repeat (first | refine wp_gop_t ?_ | refine wp_gop_f rfl ?_ | refine wp_gop_u ?_ | refine wp_gcall_t ?_ | refine wp_gcall_f rfl ?_ | refine wp_gcall_u ?_ | refine wp_ite_t ?_ | refine wp_ite_f ?_ | refine wp_faddr ?_ | refine wp_nilchk ?_ | refine wp_op (o := .mv _) rfl ?_ | refine wp_op (o := .pick _ _ _) rfl ?_ | refine wp_op (o := .extract _ _) rfl ?_)
      refine wp_loada H (cs := x.cs) (by repeat (first | exact List.Mem.head _ | apply List.Mem.tail)) (Nat.le_of_ble_eq_true rfl) ?_
      repeat (first | refine wp_gop_t ?_ | refine wp_gop_f rfl ?_ | refine wp_gop_u ?_ | refine wp_gcall_t ?_ | refine wp_gcall_f rfl ?_ | refine wp_gcall_u ?_ | refine wp_ite_t ?_ | refine wp_ite_f ?_ | refine wp_faddr ?_ | refine wp_nilchk ?_ | refine wp_op (o := .mv _) rfl ?_ | refine wp_op (o := .pick _ _ _) rfl ?_ | refine wp_op (o := .extract _ _) rfl ?_)
      refine wp_callV H (refMany_ok hT) fun S5 H => ?_
      repeat (first | refine wp_gop_t ?_ | refine wp_gop_f rfl ?_ | refine wp_gop_u ?_ | refine wp_gcall_t ?_ | refine wp_gcall_f rfl ?_ | refine wp_gcall_u ?_ | refine wp_ite_t ?_ | refine wp_ite_f ?_ | refine wp_faddr ?_ | refine wp_nilchk ?_ | refine wp_op (o := .mv _) rfl ?_ | refine wp_op (o := .pick _ _ _) rfl ?_ | refine wp_op (o := .extract _ _) rfl ?_)
      refine wp_geq (fun hge => ?_) (fun hlt => ?_)
      · rw [if_neg (by omega)]
        repeat (first | refine wp_gop_t ?_ | refine wp_gop_f rfl ?_ | refine wp_gop_u ?_ | refine wp_gcall_t ?_ | refine wp_gcall_f rfl ?_ | refine wp_gcall_u ?_ | refine wp_ite_t ?_ | refine wp_ite_f ?_ | refine wp_faddr ?_ | refine wp_nilchk ?_ | refine wp_op (o := .mv _) rfl ?_ | refine wp_op (o := .pick _ _ _) rfl ?_ | refine wp_op (o := .extract _ _) rfl ?_)
        exact wp_ret ⟨rfl, rfl, H.grows⟩
      · rw [if_pos ⟨rfl, h0, hlt⟩]
        have hbd := time_bd hT h0 hlt
        have hf0 := hT.f0
        have hf1 := hT.f1
        repeat (first | refine wp_gop_t ?_ | refine wp_gop_f rfl ?_ | refine wp_gop_u ?_ | refine wp_gcall_t ?_ | refine wp_gcall_f rfl ?_ | refine wp_gcall_u ?_ | refine wp_ite_t ?_ | refine wp_ite_f ?_ | refine wp_faddr ?_ | refine wp_nilchk ?_ | refine wp_op (o := .mv _) rfl ?_ | refine wp_op (o := .pick _ _ _) rfl ?_ | refine wp_op (o := .extract _ _) rfl ?_)
        refine wp_load1 H (cs := x.cs) (by repeat (first | exact List.Mem.head _ | apply List.Mem.tail)) rfl ?_
        repeat (first | refine wp_gop_t ?_ | refine wp_gop_f rfl ?_ | refine wp_gop_u ?_ | refine wp_gcall_t ?_ | refine wp_gcall_f rfl ?_ | refine wp_gcall_u ?_ | refine wp_ite_t ?_ | refine wp_ite_f ?_ | refine wp_faddr ?_ | refine wp_nilchk ?_ | refine wp_op (o := .mv _) rfl ?_ | refine wp_op (o := .pick _ _ _) rfl ?_ | refine wp_op (o := .extract _ _) rfl ?_)
        refine wp_load1 H (cs := x.cs) (by repeat (first | exact List.Mem.head _ | apply List.Mem.tail)) rfl ?_
        refine wp_mul (c := n * x.every) (wrap64 (by omega) (by omega)) ?_
        refine wp_add64 (by omega) (by omega) ?_
        exact wp_ret ⟨rfl, rfl, H.grows⟩
def tnext (x : Tk) (now : Int) : AV := if timed x = true ∧ since x.first x.every now < many x.first x.every then .tup [I (x.first + since x.first x.every now * x.every), B true] else .tup [I 0, B false]
theorem refNext_ok {S : AH} {x : Tk} {now : Int} : wpC EM (.fn (.func 18) [] []) [.agg x.cs, I now] S fun r S' => r = tnext x now ∧ Grows S S' := by
  refine wpC_fn (b := Try.a18) rfl rfl ?_
  have H : Cx S [] S [] [] := Cx.enter (by simp)
  unfold Try.a18 tnext
  refine wp_box H rfl fun b0 S1 H => ?_
  refine wp_loada H (cs := x.cs) (by repeat (first | exact List.Mem.head _ | apply List.Mem.tail)) (Nat.le_of_ble_eq_true rfl) ?_
  refine wp_callV H refTimed_ok fun S2 H => ?_
  refine wp_not ?_
  cases ht : timed x with
  | false =>
    repeat (first | refine wp_gop_t ?_ | refine wp_gop_f rfl ?_ | refine wp_gop_u ?_ | refine wp_gcall_t ?_ | refine wp_gcall_f rfl ?_ | refine wp_gcall_u ?_ | refine wp_ite_t ?_ | refine wp_ite_f ?_ | refine wp_faddr ?_ | refine wp_nilchk ?_ | refine wp_op (o := .mv _) rfl ?_ | refine wp_op (o := .pick _ _ _) rfl ?_ | refine wp_op (o := .extract _ _) rfl ?_)
    rw [if_neg (by simp)]
    exact wp_ret ⟨rfl, rfl, H.grows⟩
  | true =>
    have hT := timed_ok ht
    have hb := many_bd hT
    repeat (first | refine wp_gop_t ?_ | refine wp_gop_f rfl ?_ | refine wp_gop_u ?_ | refine wp_gcall_t ?_ | refine wp_gcall_f rfl ?_ | refine wp_gcall_u ?_ | refine wp_ite_t ?_ | refine wp_ite_f ?_ | refine wp_faddr ?_ | refine wp_nilchk ?_ | refine wp_op (o := .mv _) rfl ?_ | refine wp_op (o := .pick _ _ _) rfl ?_ | refine wp_op (o := .extract _ _) rfl ?_)
    refine wp_gtr (fun h0 => ?_) (fun h0 => ?_)
    · repeat (first | refine wp_gop_t ?_ | refine wp_gop_f rfl ?_ | refine wp_gop_u ?_ | refine wp_gcall_t ?_ | refine wp_gcall_f rfl ?_ | refine wp_gcall_u ?_ | refine wp_ite_t ?_ | refine wp_ite_f ?_ | refine wp_faddr ?_ | refine wp_nilchk ?_ | refine wp_op (o := .mv _) rfl ?_ | refine wp_op (o := .pick _ _ _) rfl ?_ | refine wp_op (o := .extract _ _) rfl ?_)
      have e1 : since x.first x.every now = many x.first x.every := by unfold since; rw [if_neg (by have := hT.f1; omega), if_pos h0]
      rw [if_neg (by omega)]
      exact wp_ret ⟨rfl, rfl, H.grows⟩
    · repeat (first | refine wp_gop_t ?_ | refine wp_gop_f rfl ?_ | refine wp_gop_u ?_ | refine wp_gcall_t ?_ | refine wp_gcall_f rfl ?_ | refine wp_gcall_u ?_ | refine wp_ite_t ?_ | refine wp_ite_f ?_ | refine wp_faddr ?_ | refine wp_nilchk ?_ | refine wp_op (o := .mv _) rfl ?_ | refine wp_op (o := .pick _ _ _) rfl ?_ | refine wp_op (o := .extract _ _) rfl ?_)
      refine wp_loada H (cs := x.cs) (by repeat (first | exact List.Mem.head _ | apply List.Mem.tail)) (Nat.le_of_ble_eq_true rfl) ?_
      refine wp_loada H (cs := x.cs) (by repeat (first | exact List.Mem.head _ | apply List.Mem.tail)) (Nat.le_of_ble_eq_true rfl) ?_
      refine wp_callV H (refNumber_ok hT (by omega)) fun S3 H => ?_
      refine wp_chkn (j := 0) (cs := x.cs) H (by repeat (first | exact List.Mem.head _ | apply List.Mem.tail)) (Nat.le_of_ble_eq_true rfl) rfl tk_beq ?_
      refine wp_callV H refAt_ok fun S4 H => ?_
      have ea : since x.first x.every now = min (many x.first x.every) (num x.first x.every now) := by rw [since_eq hT]; congr 2; omega
      have n0 := (num_bd (f := x.first) (now := now) hT.e0).1
      have key : tat x (num x.first x.every now) = if true = true ∧ since x.first x.every now < many x.first x.every then .tup [I (x.first + since x.first x.every now * x.every), B true] else .tup [I 0, B false] := by
        unfold tat
        by_cases hlt : num x.first x.every now < many x.first x.every
        · have : since x.first x.every now = num x.first x.every now := by omega
          rw [this, if_pos ⟨ht, n0, hlt⟩, if_pos ⟨rfl, hlt⟩]
        · rw [if_neg (by omega), if_neg (by omega)]
      rw [key]
      split
      · repeat (first | refine wp_gop_t ?_ | refine wp_gop_f rfl ?_ | refine wp_gop_u ?_ | refine wp_gcall_t ?_ | refine wp_gcall_f rfl ?_ | refine wp_gcall_u ?_ | refine wp_ite_t ?_ | refine wp_ite_f ?_ | refine wp_faddr ?_ | refine wp_nilchk ?_ | refine wp_op (o := .mv _) rfl ?_ | refine wp_op (o := .pick _ _ _) rfl ?_ | refine wp_op (o := .extract _ _) rfl ?_)
        exact wp_ret ⟨rfl, rfl, H.grows⟩
      · repeat (first | refine wp_gop_t ?_ | refine wp_gop_f rfl ?_ | refine wp_gop_u ?_ | refine wp_gcall_t ?_ | refine wp_gcall_f rfl ?_ | refine wp_gcall_u ?_ | refine wp_ite_t ?_ | refine wp_ite_f ?_ | refine wp_faddr ?_ | refine wp_nilchk ?_ | refine wp_op (o := .mv _) rfl ?_ | refine wp_op (o := .pick _ _ _) rfl ?_ | refine wp_op (o := .extract _ _) rfl ?_)
        exact wp_ret ⟨rfl, rfl, H.grows⟩
end Go.Abs
namespace Go.Abs
open Go.Proofs
set_option maxRecDepth 100000
section
variable {M : Mach} {B0 S : AH} {W : List Nat} {own : List Own} {ro : List Fct} {Q : Post}
/-- a range over a function: Done says how it ended -/
theorem wp_rngX (H : Cx B0 W S own ro) {m : Nat} {f : AV} {body : List AV → AC} {kk : AC} {outs : List AV} (hf : ∀ i, f ≠ .yd i) (Done : Option Tag → AH → Prop)
    (hc : ∀ l S1, Cx B0 W S1 (.obj l (.loop .ready none m body) :: own) ro → wpC M f [.yd l] S1 fun _ S' => ∃ st p m' b', S'.get l = some (.loop st p m' b') ∧ st ≠ .busy ∧ ∀ S2, S2.next = S'.next → (∀ j, j ≠ l → S2.get j = S'.get j) → Done p S2)
    (h : ∀ S2, Done none S2 → wp M kk S2 Q) (h' : ∀ t S2, Done (some t) S2 → Q t outs S2) : wp M (.rng m f body kk outs) S Q := by
  refine wp_rng hf (wpC_mono (hc S.next _ (H.addOwn (Grows.new S _) (get_new_same _ _) ?_)) fun v S' ⟨st, p, m', b', h1, h2, h3⟩ => ⟨st, p, m', b', h1, h2, ?_⟩)
  · intro j hj
    simp only [Own.ids, List.mem_singleton] at hj
    subst hj
    exact ⟨Nat.le_refl _, by simp⟩
  · have key := h3 (S'.set S.next (.loop .exhausted p m' b')) rfl fun j hj => by rw [AH.get_set, if_neg hj]
    cases p with
    | none => exact h _ key
    | some t => exact h' t _ key
/-- a round, however it ends -/
theorem wpC_ydX (H : Cx B0 W S own ro) (n : Nat) {l m : Nat} {args : List AV} {body : List AV → AC} {R : AV → AH → Prop} (hm : own[n]? = some (.obj l (.loop .ready none m body))) (hl : args.length = m)
    (h : wp M (body (.yd l :: args)) S fun t _ S' => ∃ own' ro', Cx B0 W S' own' ro' ∧ own'[n]? = some (.obj l (.loop .busy none m body)) ∧
      ((t = .normal ∧ ∀ S2, Cx B0 W S2 (own'.set n (.obj l (.loop .ready none m body))) ro' → R (B true) S2) ∨ (t ≠ .normal ∧ ∀ S2, Cx B0 W S2 (own'.set n (.obj l (.loop .done (some t) m body))) ro' → R (B false) S2))) :
    wpC M (.yd l) args S R := by
  refine wpC_yd (H.oh _ (List.mem_of_getElem? hm)) hl (wp_mono h fun t vs S' q => ?_)
  obtain ⟨own', ro', H', hm', hR⟩ := q
  refine ⟨none, m, body, H'.oh _ (List.mem_of_getElem? hm'), ?_⟩
  rcases hR with ⟨rfl, hR⟩ | ⟨ht, hR⟩
  · exact hR _ (H'.setOb hm' _)
  · cases t with
    | normal => exact absurd rfl ht
    | _ => exact hR _ (H'.setOb hm' _)
end
theorem times41 {S : AH} {f e n : Int} {B0 : AH} {W : List Nat} {own : List Own} {ro : List Fct} {Q : Post} {k : AV → AC} (H : Cx B0 W S own ro)
    (h : ∀ pn pc S1, Cx B0 W S1 own (.pt pn 0 [I n] :: .pt pc 0 [I f, I e] :: ro) → wp EM (k (.fn (.func 52) [] [.ptr pn 0, .ptr pc 0])) S1 Q) : wp EM (.call (.fn (.func 41) [] []) [cl f e, I n] k) S Q := by
  refine wp_call (wpC_fn (b := Try.a41) rfl rfl ?_)
  unfold Try.a41
  refine wp_box H rfl fun pd S1 H => ?_
  refine wp_box H rfl fun ph S2 H => ?_
  exact wp_ret ⟨rfl, h ph pd S2 H⟩
/-- the iterator, one time behind the other -/
theorem iter_ok {S : AH} {pn pc l : Nat} {f e n : Int} (hT : TOk f e) (h0 : 0 ≤ n) (h1 : n ≤ many f e) (J : Int → AH → Prop) (JF : AH → Prop)
    (hJ : ∀ i S, J i S → ∃ B W own, Cx B W S own [.pt pn 0 [I n], .pt pc 0 [I f, I e]]) (hg : ∀ i S S', J i S → Grows S S' → J i S')
    (hy : ∀ i S, n ≤ i → i < many f e → J i S → wpC EM (.yd l) [I (f + i * e)] S fun v S' => (v = B true ∧ J (i + 1) S') ∨ (v = B false ∧ JF S')) (hn : J n S) :
    wpC EM (.fn (.func 52) [] [.ptr pn 0, .ptr pc 0]) [.yd l] S fun _ S' => J (many f e) S' ∨ JF S' := by
  refine wpC_fn (b := Try.a52) rfl rfl ?_
  unfold Try.a52
  have hb := many_bd hT
  have ent : ∀ i S, J i S → Cx S [] S [] [.pt pn 0 [I n], .pt pc 0 [I f, I e]] := by
    intro i S hJi
    obtain ⟨B, W, own, H⟩ := hJ i S hJi
    exact Cx.enter fun φ hφ => ⟨H.rh φ hφ, fun id hid => (H.ri φ hφ id hid).1⟩
  refine wp_load0 (ent n S hn) (cs := [I n]) (by repeat (first | exact List.Mem.head _ | apply List.Mem.tail)) rfl ?_
  refine wp_bind (wp_loop (wpL_for (many f e - n).toNat (fun i vs S1 => vs = [I (n + (i : Int))] ∧ J (n + (i : Int)) S1) ?_ ?_ ⟨by simp, by simpa using hn⟩))
  · rintro i vs S1 hlt ⟨rfl, hJi⟩
    have H := ent _ S1 hJi
    refine wp_loada H (cs := [I f, I e]) (by repeat (first | exact List.Mem.head _ | apply List.Mem.tail)) (Nat.le_of_ble_eq_true rfl) ?_
    refine wp_callV H (many_ok hT) fun S2 H => ?_
    refine wp_lss_t (by omega) ?_
    repeat (first | refine wp_gop_t ?_ | refine wp_gop_f rfl ?_ | refine wp_gop_u ?_ | refine wp_gcall_t ?_ | refine wp_gcall_f rfl ?_ | refine wp_gcall_u ?_ | refine wp_ite_t ?_ | refine wp_ite_f ?_ | refine wp_faddr ?_ | refine wp_nilchk ?_ | refine wp_op (o := .mv _) rfl ?_ | refine wp_op (o := .pick _ _ _) rfl ?_ | refine wp_op (o := .extract _ _) rfl ?_)
    refine wp_bind ?_
    have hbd := time_bd hT (n := n + (i : Int)) (by omega) (by omega)
    have hf0 := hT.f0
    have hf1 := hT.f1
    repeat (first | refine wp_gop_t ?_ | refine wp_gop_f rfl ?_ | refine wp_gop_u ?_ | refine wp_gcall_t ?_ | refine wp_gcall_f rfl ?_ | refine wp_gcall_u ?_ | refine wp_ite_t ?_ | refine wp_ite_f ?_ | refine wp_faddr ?_ | refine wp_nilchk ?_ | refine wp_op (o := .mv _) rfl ?_ | refine wp_op (o := .pick _ _ _) rfl ?_ | refine wp_op (o := .extract _ _) rfl ?_)
    refine wp_load1 H (cs := [I f, I e]) (by repeat (first | exact List.Mem.head _ | apply List.Mem.tail)) rfl ?_
    repeat (first | refine wp_gop_t ?_ | refine wp_gop_f rfl ?_ | refine wp_gop_u ?_ | refine wp_gcall_t ?_ | refine wp_gcall_f rfl ?_ | refine wp_gcall_u ?_ | refine wp_ite_t ?_ | refine wp_ite_f ?_ | refine wp_faddr ?_ | refine wp_nilchk ?_ | refine wp_op (o := .mv _) rfl ?_ | refine wp_op (o := .pick _ _ _) rfl ?_ | refine wp_op (o := .extract _ _) rfl ?_)
    refine wp_load1 H (cs := [I f, I e]) (by repeat (first | exact List.Mem.head _ | apply List.Mem.tail)) rfl ?_
    refine wp_mul (c := (n + (i : Int)) * e) (wrap64 (by omega) (by omega)) ?_
    refine wp_add64 (by omega) (by omega) ?_
    refine wp_call (wpC_mono (hy (n + (i : Int)) S2 (by omega) (by omega) (hg _ _ _ hJi H.grows)) fun r S3 hr => ?_)
    rcases hr with ⟨rfl, hJ'⟩ | ⟨rfl, hF⟩
    · refine wp_not ?_
      repeat (first | refine wp_gop_t ?_ | refine wp_gop_f rfl ?_ | refine wp_gop_u ?_ | refine wp_gcall_t ?_ | refine wp_gcall_f rfl ?_ | refine wp_gcall_u ?_ | refine wp_ite_t ?_ | refine wp_ite_f ?_ | refine wp_faddr ?_ | refine wp_nilchk ?_ | refine wp_op (o := .mv _) rfl ?_ | refine wp_op (o := .pick _ _ _) rfl ?_ | refine wp_op (o := .extract _ _) rfl ?_)
      refine wp_ret ?_
      show wp EM _ _ _
      refine wp_add64 (by omega) (by omega) (wp_ret (.inl ⟨rfl, ?_⟩))
      rw [Int.natCast_add, show ((1 : Nat) : Int) = 1 from rfl, ← Int.add_assoc]
      exact ⟨rfl, hJ'⟩
    · refine wp_not ?_
      repeat (first | refine wp_gop_t ?_ | refine wp_gop_f rfl ?_ | refine wp_gop_u ?_ | refine wp_gcall_t ?_ | refine wp_gcall_f rfl ?_ | refine wp_gcall_u ?_ | refine wp_ite_t ?_ | refine wp_ite_f ?_ | refine wp_faddr ?_ | refine wp_nilchk ?_ | refine wp_op (o := .mv _) rfl ?_ | refine wp_op (o := .pick _ _ _) rfl ?_ | refine wp_op (o := .extract _ _) rfl ?_)
      exact wp_ret (.inr ⟨by simp, rfl, .inr hF⟩)
  · rintro vs S1 ⟨rfl, hJi⟩
    have en : n + ((many f e - n).toNat : Int) = many f e := by omega
    rw [en] at hJi ⊢
    have H := ent _ S1 hJi
    refine wp_loada H (cs := [I f, I e]) (by repeat (first | exact List.Mem.head _ | apply List.Mem.tail)) (Nat.le_of_ble_eq_true rfl) ?_
    refine wp_callV H (many_ok hT) fun S2 H => ?_
    refine wp_lss_f (by omega) ?_
    repeat (first | refine wp_gop_t ?_ | refine wp_gop_f rfl ?_ | refine wp_gop_u ?_ | refine wp_gcall_t ?_ | refine wp_gcall_f rfl ?_ | refine wp_gcall_u ?_ | refine wp_ite_t ?_ | refine wp_ite_f ?_ | refine wp_faddr ?_ | refine wp_nilchk ?_ | refine wp_op (o := .mv _) rfl ?_ | refine wp_op (o := .pick _ _ _) rfl ?_ | refine wp_op (o := .extract _ _) rfl ?_)
    exact wp_ret ⟨by simp, wp_ret ⟨rfl, .inl (hg _ _ _ hJi H.grows)⟩⟩

theorem next_ok {S : AH} {x : Tk} {now : Int} : wpC EM (.fn (.func 17) [] []) [.agg x.cs, I now] S fun r S' => r = tnext x now ∧ Grows S S' := by
  refine wpC_fn (b := Try.a17) rfl rfl ?_
  have H : Cx S [] S [] [] := Cx.enter (by simp)
  unfold Try.a17 tnext
  refine wp_fin ?_
  refine wp_box H rfl fun b0 S1 H => ?_
  refine wp_alloc H fun r1 S2 H => ?_
  refine wp_alloc H fun r2 S3 H => ?_
  refine wp_loada H (cs := x.cs) (by repeat (first | exact List.Mem.head _ | apply List.Mem.tail)) (Nat.le_of_ble_eq_true rfl) ?_
  refine wp_callV H of_ok fun S4 H => ?_
  repeat (first | refine wp_gop_t ?_ | refine wp_gop_f rfl ?_ | refine wp_gop_u ?_ | refine wp_gcall_t ?_ | refine wp_gcall_f rfl ?_ | refine wp_gcall_u ?_ | refine wp_ite_t ?_ | refine wp_ite_f ?_ | refine wp_faddr ?_ | refine wp_nilchk ?_ | refine wp_op (o := .mv _) rfl ?_ | refine wp_op (o := .pick _ _ _) rfl ?_ | refine wp_op (o := .extract _ _) rfl ?_)
  refine wp_alloc H fun o S5 H => ?_
  refine wp_store (v := cl x.first x.every) H 0 rfl rfl rfl (Nat.le_of_ble_eq_true rfl) fun S6 H => ?_
  replace H : Cx S [] S6 [.obj r2 (.row [B false]), .obj r1 (.row [I 0])] [.pt o 0 [I x.first, I x.every], .pt b0 0 x.cs] := H.freeze (i := 0) (c := [I x.first, I x.every]) rfl
  refine wp_bind ?_
  have none_ : ∀ S7, Cx S [] S7 [.obj r2 (.row [B false]), .obj r1 (.row [I 0])] [] → wp EM (.op (.store 1 (.ptr r1 0) (I 0)) fun v11 => .op (.store 1 (.ptr r2 0) (B false)) fun v12 => .ret .ret [.ptr r1 0, .ptr r2 0]) S7 fun t vs S' => (t = .normal ∨ t = .ret) ∧ wp EM (.op (.load 1 false (nth vs 0)) fun v2 => .op (.load 1 false (nth vs 1)) fun v3 => .ret .ret [v2, v3]) S' fun t vs S' => t = .ret ∧ oneOf vs = .tup [I 0, B false] ∧ Grows S S' := by
    intro S7 H
    refine wp_store H 1 rfl rfl rfl (Nat.le_of_ble_eq_true rfl) fun S8 H => ?_
    refine wp_store H 0 rfl rfl rfl (Nat.le_of_ble_eq_true rfl) fun S9 H => ?_
    refine wp_ret ⟨.inr rfl, ?_⟩
    refine wp_loado (v := I 0) H 1 rfl rfl ?_
    refine wp_loado (v := B false) H 0 rfl rfl ?_
    exact wp_ret ⟨rfl, rfl, H.grows⟩
  show wp EM (.ite (B (timed x)) _ _) S6 _
  cases ht : timed x with
  | false =>
    repeat (first | refine wp_gop_t ?_ | refine wp_gop_f rfl ?_ | refine wp_gop_u ?_ | refine wp_gcall_t ?_ | refine wp_gcall_f rfl ?_ | refine wp_gcall_u ?_ | refine wp_ite_t ?_ | refine wp_ite_f ?_ | refine wp_faddr ?_ | refine wp_nilchk ?_ | refine wp_op (o := .mv _) rfl ?_ | refine wp_op (o := .pick _ _ _) rfl ?_ | refine wp_op (o := .extract _ _) rfl ?_)
    rw [if_neg (by simp)]
    refine wp_ret ?_
    exact none_ S6 (H.dropRo (by simp))
  | true =>
    have hT := timed_ok ht
    have hb := many_bd hT
    have hs := since_bd (now := now) hT
    repeat (first | refine wp_gop_t ?_ | refine wp_gop_f rfl ?_ | refine wp_gop_u ?_ | refine wp_gcall_t ?_ | refine wp_gcall_f rfl ?_ | refine wp_gcall_u ?_ | refine wp_ite_t ?_ | refine wp_ite_f ?_ | refine wp_faddr ?_ | refine wp_nilchk ?_ | refine wp_op (o := .mv _) rfl ?_ | refine wp_op (o := .pick _ _ _) rfl ?_ | refine wp_op (o := .extract _ _) rfl ?_)
    refine wp_loada H (cs := [I x.first, I x.every]) (by repeat (first | exact List.Mem.head _ | apply List.Mem.tail)) (Nat.le_of_ble_eq_true rfl) ?_
    refine wp_loada H (cs := [I x.first, I x.every]) (by repeat (first | exact List.Mem.head _ | apply List.Mem.tail)) (Nat.le_of_ble_eq_true rfl) ?_
    refine wp_callV H (since_ok hT) fun S7 H => ?_
    refine wp_chkn (j := 0) (cs := [I x.first, I x.every]) H (by repeat (first | exact List.Mem.head _ | apply List.Mem.tail)) (Nat.le_of_ble_eq_true rfl) rfl cl_beq ?_
    refine times41 H fun pn pc S8 H => ?_
    refine wp_bind ?_
    generalize hs' : since x.first x.every now = s at hs H ⊢
    refine wp_rngX (Done := fun p S' => match p with
      | none => many x.first x.every ≤ s ∧ Cx S [] S' [.obj r2 (.row [B false]), .obj r1 (.row [I 0])] []
      | some t => t = .ret ∧ s < many x.first x.every ∧ Cx S [] S' [.obj r2 (.row [B true]), .obj r1 (.row [I (x.first + s * x.every)])] []) H (by intro i e; cases e) ?_ ?_ ?_
    · intro l S9 H
      refine wpC_mono (iter_ok hT hs.1 hs.2 (fun i S' => i = s ∧ Cx S [] S' [.obj l (.loop .ready none 1 fun v14 => .start (nth v14 0) (.bind (Try.a17x0 (.ptr r1 0) (.ptr r2 0) v14) (some 1) (fun v15 => .ret .normal []) (fun v15 => []))), .obj r2 (.row [B false]), .obj r1 (.row [I 0])] [.pt pn 0 [I s], .pt pc 0 [I x.first, I x.every]])
        (fun S' => s < many x.first x.every ∧ Cx S [] S' [.obj l (.loop .done (some .ret) 1 fun v14 => .start (nth v14 0) (.bind (Try.a17x0 (.ptr r1 0) (.ptr r2 0) v14) (some 1) (fun v15 => .ret .normal []) (fun v15 => []))), .obj r2 (.row [B true]), .obj r1 (.row [I (x.first + s * x.every)])] []) ?_ ?_ ?_ ⟨rfl, H.dropRo (by
          intro φ hφ
          rcases List.mem_cons.1 hφ with rfl | hφ
          · exact List.Mem.head _
          · exact List.mem_of_mem_take (i := 2) (List.Mem.tail _ hφ))⟩) fun r S' hr => ?_
      · rintro i S' ⟨rfl, H⟩
        exact ⟨_, _, _, H⟩
      · rintro i S' S'' ⟨rfl, H⟩ hg
        exact ⟨rfl, H.grow hg⟩
      · rintro i S' h1 h2 ⟨rfl, H⟩
        refine wpC_ydX H 0 rfl rfl ?_
        refine wp_startO H 0 rfl fun S10 H => ?_
        refine wp_bind ?_
        unfold Try.a17x0
        refine wp_store (v := I (x.first + i * x.every)) H 2 rfl rfl rfl (Nat.le_of_ble_eq_true rfl) fun S11 H => ?_
        refine wp_store H 1 rfl rfl rfl (Nat.le_of_ble_eq_true rfl) fun S12 H => ?_
        refine wp_ret ?_
        exact ⟨_, _, H, rfl, .inr ⟨by simp, fun S13 H => .inr ⟨rfl, h2, H.dropRo (by simp)⟩⟩⟩
      · rcases hr with ⟨hm, H⟩ | ⟨hm, H⟩
        · exact ⟨_, _, _, _, H.oh _ (List.Mem.head _), by simp, fun S2 e1 e2 => ⟨by omega, (H.other (n := 0) rfl e1 e2).dropRo (by simp)⟩⟩
        · exact ⟨_, _, _, _, H.oh _ (List.Mem.head _), by simp, fun S2 e1 e2 => ⟨rfl, hm, (H.other (n := 0) rfl e1 e2).dropRo (by simp)⟩⟩
    · rintro S9 ⟨hm, H⟩
      refine wp_ret ?_
      show wp EM _ _ _
      refine wp_ret ?_
      rw [if_neg (by omega)]
      exact none_ S9 H
    · rintro t S9 ⟨rfl, hm, H⟩
      rw [if_pos ⟨rfl, hm⟩]
      refine ⟨.inr rfl, ?_⟩
      refine wp_loado (v := I (x.first + s * x.every)) H 1 rfl rfl ?_
      refine wp_loado (v := B true) H 0 rfl rfl ?_
      exact wp_ret ⟨rfl, rfl, H.grows⟩
end Go.Abs
namespace Go.Abs
open Go.Proofs
set_option maxRecDepth 100000
theorem slOk_odd {S : AH} {v : AV} {es : Nat} {L : List (List AV)} (h : slOk S v es L) : odd v = false ∧ v.cells = [v] := by
  rcases h with ⟨rfl, _⟩ | ⟨id, off, c, h0, _⟩
  · exact ⟨rfl, rfl⟩
  · rcases h0 with ⟨_, _, _, rfl⟩ | ⟨_, _, _, rfl⟩ <;> exact ⟨rfl, rfl⟩
/-- times from a number on -/
def tl (f e s : Int) (n : Nat) : List Int := (List.range n).map fun (k : Nat) => f + (s + (k : Int)) * e
theorem tl_len {f e s : Int} {n : Nat} : (tl f e s n).length = n := by simp [tl]
theorem tl_succ {f e s : Int} {n : Nat} : tl f e s (n + 1) = tl f e s n ++ [f + (s + (n : Int)) * e] := by unfold tl; rw [List.range_succ, List.map_append]; rfl
theorem ints_snoc (l : List Int) (n : Int) : ints (l ++ [n]) = ints l ++ [[I n]] := by simp [ints]
def cnum (x : Tk) (a b most : Int) : Nat := (min (min (count x a b) most) 4096).toNat
def ctimes (x : Tk) (a b most : Int) : List Int := tl x.first x.every (since x.first x.every a) (cnum x a b most)
theorem ctimes_len (x : Tk) (a b most : Int) : (ctimes x a b most).length ≤ 4096 := by unfold ctimes; rw [tl_len]; unfold cnum; omega
theorem since_mono {f e a b : Int} (h : TOk f e) (hab : a ≤ b) : since f e a ≤ since f e b := by
  rw [since_eq h, since_eq h]
  have hmin : min a (1099511627776 + 1) ≤ min b (1099511627776 + 1) := by omega
  generalize min a (1099511627776 + 1) = a at hmin
  generalize min b (1099511627776 + 1) = b at hmin
  have : num f e a ≤ num f e b := by
    by_cases ha : a ≤ f
    · have := (num_bd (f := f) (now := b) h.e0).1
      unfold num at *; rw [if_pos ha]; exact this
    · rw [num_ceil h.e0 (by omega), num_ceil h.e0 (by omega)]
      exact Int.ediv_le_ediv (by have := h.e0; omega) (by omega)
  omega
theorem time_lt {f e b i : Int} (h : TOk f e) (h0 : 0 ≤ i) (h1 : i < many f e) : f + i * e < b ↔ i < since f e b := by
  have hbd := time_bd h h0 h1
  obtain ⟨f0, f1, e0, e1⟩ := h
  unfold since
  split
  · constructor <;> intro <;> omega
  · split
    · constructor <;> intro <;> omega
    · rw [num_ceil e0 (by omega)]
      have key : i < (b - f + e - 1) / e ↔ i * e < b - f := by
        have : i + 1 ≤ (b - f + e - 1) / e ↔ (i + 1) * e ≤ b - f + e - 1 := Int.le_ediv_iff_mul_le (by omega : 0 < e)
        have e2 : (i + 1) * e = i * e + e := by rw [Int.add_mul]; omega
        rw [e2] at this
        constructor
        · intro hh; have := this.1 (by omega); omega
        · intro hh; have := this.2 (by omega); omega
      constructor
      · intro hh; have := key.2 (by omega); omega
      · intro hh; have := key.1 (by omega); omega

theorem refTimes_ok {S : AH} {x : Tk} {a b most : Int} : wpC EM (.fn (.func 25) [] []) [.agg x.cs, I a, I b, I most] S fun r S' => Cx S [] S' [.sl r 1 (ints (ctimes x a b most))] [] := by
  refine wpC_fn (b := Try.a25) rfl rfl ?_
  have H : Cx S [] S [] [] := Cx.enter (by simp)
  unfold Try.a25
  refine wp_box H rfl fun b0 S1 H => ?_
  refine wp_loada H (cs := x.cs) (by repeat (first | exact List.Mem.head _ | apply List.Mem.tail)) (Nat.le_of_ble_eq_true rfl) ?_
  refine wp_callV H refCount_ok fun S2 H => ?_
  refine wp_min3 ?_
  have hN : cnum x a b most ≤ 4096 := by unfold cnum; omega
  refine wp_bind (wp_loop (wpL_for (cnum x a b most) (fun i vs S1 => ∃ u : AV, vs = [I (i : Int), u] ∧ Cx S [] S1 [.sl u 1 (ints (tl x.first x.every (since x.first x.every a) i))] [.pt b0 0 x.cs]) ?_ ?_ ⟨Ns, rfl, H.addOwn (Grows.refl _) (.inl ⟨rfl, rfl⟩) (by simp [Own.ids, vids])⟩))
  · rintro i vs S3 hlt ⟨u, rfl, H⟩
    have hi : (i : Int) < min (min (count x a b) most) 4096 := by unfold cnum at hlt; omega
    refine wp_lss_t hi ?_
    -- there are some: the task has times, and the first one is not the last
    have hc : (i : Int) < count x a b := by omega
    have hpos : timed x = true ∧ a < b := by
      unfold count at hc
      split at hc
      · assumption
      · omega
    have hT := timed_ok hpos.1
    unfold count at hc
    rw [if_pos hpos] at hc
    have sa := since_bd (now := a) hT
    have sb := since_bd (now := b) hT
    have hna : a ≤ 1099511627776 := by
      by_cases h : a ≤ 1099511627776
      · exact h
      · have e1 : since x.first x.every a = many x.first x.every := by unfold since; rw [if_neg (by have := hT.f1; omega), if_pos (by omega)]
        omega
    have en : num x.first x.every a = since x.first x.every a := by
      have e1 : since x.first x.every a = min (many x.first x.every) (num x.first x.every a) := by rw [since_eq hT, show min a (1099511627776 + 1) = a by omega]
      omega
    have hbd := time_bd hT (n := since x.first x.every a + (i : Int)) (by omega) (by omega)
    have hf0 := hT.f0
    have hf1 := hT.f1
    have hb := many_bd hT
    repeat (first | refine wp_gop_t ?_ | refine wp_gop_f rfl ?_ | refine wp_gop_u ?_ | refine wp_gcall_t ?_ | refine wp_gcall_f rfl ?_ | refine wp_gcall_u ?_ | refine wp_ite_t ?_ | refine wp_ite_f ?_ | refine wp_faddr ?_ | refine wp_nilchk ?_ | refine wp_op (o := .mv _) rfl ?_ | refine wp_op (o := .pick _ _ _) rfl ?_ | refine wp_op (o := .extract _ _) rfl ?_)
    refine wp_bind ?_
    repeat (first | refine wp_gop_t ?_ | refine wp_gop_f rfl ?_ | refine wp_gop_u ?_ | refine wp_gcall_t ?_ | refine wp_gcall_f rfl ?_ | refine wp_gcall_u ?_ | refine wp_ite_t ?_ | refine wp_ite_f ?_ | refine wp_faddr ?_ | refine wp_nilchk ?_ | refine wp_op (o := .mv _) rfl ?_ | refine wp_op (o := .pick _ _ _) rfl ?_ | refine wp_op (o := .extract _ _) rfl ?_)
    refine wp_load1 H (cs := x.cs) (by repeat (first | exact List.Mem.head _ | apply List.Mem.tail)) rfl ?_
    refine wp_loada H (cs := x.cs) (by repeat (first | exact List.Mem.head _ | apply List.Mem.tail)) (Nat.le_of_ble_eq_true rfl) ?_
    repeat (first | refine wp_gop_t ?_ | refine wp_gop_f rfl ?_ | refine wp_gop_u ?_ | refine wp_gcall_t ?_ | refine wp_gcall_f rfl ?_ | refine wp_gcall_u ?_ | refine wp_ite_t ?_ | refine wp_ite_f ?_ | refine wp_faddr ?_ | refine wp_nilchk ?_ | refine wp_op (o := .mv _) rfl ?_ | refine wp_op (o := .pick _ _ _) rfl ?_ | refine wp_op (o := .extract _ _) rfl ?_)
    refine wp_load1 H (cs := x.cs) (by repeat (first | exact List.Mem.head _ | apply List.Mem.tail)) rfl ?_
    refine wp_callV H (refNumber_ok hT (by omega)) fun S4 H => ?_
    rw [en]
    refine wp_chk1 (v := I x.first) H (cs := x.cs) (by repeat (first | exact List.Mem.head _ | apply List.Mem.tail)) rfl beq_num ?_
    refine wp_chk1 (v := I x.every) H (cs := x.cs) (by repeat (first | exact List.Mem.head _ | apply List.Mem.tail)) rfl beq_num ?_
    refine wp_add64 (by omega) (by omega) ?_
    refine wp_mul (c := (since x.first x.every a + (i : Int)) * x.every) (wrap64 (by omega) (by omega)) ?_
    refine wp_add64 (by omega) (by omega) ?_
    refine wp_push H 0 rfl rfl rfl rfl (by rw [ints_len, tl_len]; unfold maxBytes; omega) (by rw [ints_len, tl_len]; unfold maxLenN; omega) fun u1 S5 H => ?_
    refine wp_ret ?_
    show wp EM _ _ _
    refine wp_add64 (by omega) (by omega) (wp_ret (.inl ⟨rfl, u1, rfl, ?_⟩))
    rw [tl_succ, ints_snoc]
    exact H
  · rintro vs S3 ⟨u, rfl, H⟩
    have hi : min (min (count x a b) most) 4096 ≤ (cnum x a b most : Int) := by unfold cnum; omega
    refine wp_lss_f hi ?_
    repeat (first | refine wp_gop_t ?_ | refine wp_gop_f rfl ?_ | refine wp_gop_u ?_ | refine wp_gcall_t ?_ | refine wp_gcall_f rfl ?_ | refine wp_gcall_u ?_ | refine wp_ite_t ?_ | refine wp_ite_f ?_ | refine wp_faddr ?_ | refine wp_nilchk ?_ | refine wp_op (o := .mv _) rfl ?_ | refine wp_op (o := .pick _ _ _) rfl ?_ | refine wp_op (o := .extract _ _) rfl ?_)
    exact wp_ret ⟨by simp, wp_ret ⟨rfl, H.tl⟩⟩

theorem times_ok {S : AH} {x : Tk} {a b most : Int} : wpC EM (.fn (.func 21) [] []) [.agg x.cs, I a, I b, I most] S fun r S' => Cx S [] S' [.sl r 1 (ints (ctimes x a b most))] [] := by
  refine wpC_fn (b := Try.a21) rfl rfl ?_
  have H : Cx S [] S [] [] := Cx.enter (by simp)
  unfold Try.a21
  refine wp_box H rfl fun b1 S1 H => ?_
  refine wp_box H rfl fun b2 S2 H => ?_
  refine wp_boxOwn H rfl fun b3 S3 H => ?_
  refine wp_alloc H fun o S4 H => ?_
  refine wp_loada H (cs := x.cs) (by repeat (first | exact List.Mem.head _ | apply List.Mem.tail)) (Nat.le_of_ble_eq_true rfl) ?_
  refine wp_callV H of_ok fun S5 H => ?_
  repeat (first | refine wp_gop_t ?_ | refine wp_gop_f rfl ?_ | refine wp_gop_u ?_ | refine wp_gcall_t ?_ | refine wp_gcall_f rfl ?_ | refine wp_gcall_u ?_ | refine wp_ite_t ?_ | refine wp_ite_f ?_ | refine wp_faddr ?_ | refine wp_nilchk ?_ | refine wp_op (o := .mv _) rfl ?_ | refine wp_op (o := .pick _ _ _) rfl ?_ | refine wp_op (o := .extract _ _) rfl ?_)
  refine wp_alloc H fun c S6 H => ?_
  refine wp_store (v := cl x.first x.every) H 0 rfl rfl rfl (Nat.le_of_ble_eq_true rfl) fun S7 H => ?_
  replace H : Cx S [] S7 [.obj o (.row [Ns]), .obj b3 (.row [I most])] [.pt c 0 [I x.first, I x.every], .pt b2 0 [I b], .pt b1 0 x.cs] := H.freeze (i := 0) (c := [I x.first, I x.every]) rfl
  refine wp_loado (v := I most) H 1 rfl rfl ?_
  refine wp_min ?_
  refine wp_store H 1 rfl rfl rfl (Nat.le_of_ble_eq_true rfl) fun S8 H => ?_
  replace H : Cx S [] S8 [.obj o (.row [Ns])] [.pt b3 0 [I (min most 4096)], .pt c 0 [I x.first, I x.every], .pt b2 0 [I b], .pt b1 0 x.cs] := H.freeze (i := 1) (c := [I (min most 4096)]) rfl
  show wp EM (.op (.un .not (B (timed x))) _) S8 _
  refine wp_not ?_
  have empty : ∀ S9, Cx S [] S9 [.obj o (.row [Ns])] [.pt b3 0 [I (min most 4096)], .pt c 0 [I x.first, I x.every], .pt b2 0 [I b], .pt b1 0 x.cs] → cnum x a b most = 0 → wp EM (.op (.load 1 false (.ptr o 0)) fun v22 => .ret .ret [v22]) S9 fun t vs S' => t = .ret ∧ Cx S [] S' [.sl (oneOf vs) 1 (ints (ctimes x a b most))] [] := by
    intro S9 H h0
    refine wp_loado (v := Ns) H 0 rfl rfl ?_
    refine wp_ret ⟨rfl, ?_⟩
    have e : ctimes x a b most = [] := by unfold ctimes; rw [h0]; rfl
    rw [e]
    exact ((H.dropOwn (List.nil_sublist _)).dropRo (by simp) : Cx S [] S9 [] []).addOwn (Grows.refl _) (.inl ⟨rfl, rfl⟩) (by simp [Own.ids, vids, oneOf])
  cases ht : timed x with
  | false =>
    repeat (first | refine wp_gop_t ?_ | refine wp_gop_f rfl ?_ | refine wp_gop_u ?_ | refine wp_gcall_t ?_ | refine wp_gcall_f rfl ?_ | refine wp_gcall_u ?_ | refine wp_ite_t ?_ | refine wp_ite_f ?_ | refine wp_faddr ?_ | refine wp_nilchk ?_ | refine wp_op (o := .mv _) rfl ?_ | refine wp_op (o := .pick _ _ _) rfl ?_ | refine wp_op (o := .extract _ _) rfl ?_)
    exact empty S8 H (by unfold cnum count; rw [ht, if_neg (by simp)]; omega)
  | true =>
    have hT := timed_ok ht
    have hb := many_bd hT
    have sa := since_bd (now := a) hT
    have sb := since_bd (now := b) hT
    repeat (first | refine wp_gop_t ?_ | refine wp_gop_f rfl ?_ | refine wp_gop_u ?_ | refine wp_gcall_t ?_ | refine wp_gcall_f rfl ?_ | refine wp_gcall_u ?_ | refine wp_ite_t ?_ | refine wp_ite_f ?_ | refine wp_faddr ?_ | refine wp_nilchk ?_ | refine wp_op (o := .mv _) rfl ?_ | refine wp_op (o := .pick _ _ _) rfl ?_ | refine wp_op (o := .extract _ _) rfl ?_)
    refine wp_load0 H (cs := [I (min most 4096)]) (by repeat (first | exact List.Mem.head _ | apply List.Mem.tail)) rfl ?_
    repeat (first | refine wp_gop_t ?_ | refine wp_gop_f rfl ?_ | refine wp_gop_u ?_ | refine wp_gcall_t ?_ | refine wp_gcall_f rfl ?_ | refine wp_gcall_u ?_ | refine wp_ite_t ?_ | refine wp_ite_f ?_ | refine wp_faddr ?_ | refine wp_nilchk ?_ | refine wp_op (o := .mv _) rfl ?_ | refine wp_op (o := .pick _ _ _) rfl ?_ | refine wp_op (o := .extract _ _) rfl ?_)
    refine wp_lss (fun hm => ?_) (fun hm => ?_)
    · repeat (first | refine wp_gop_t ?_ | refine wp_gop_f rfl ?_ | refine wp_gop_u ?_ | refine wp_gcall_t ?_ | refine wp_gcall_f rfl ?_ | refine wp_gcall_u ?_ | refine wp_ite_t ?_ | refine wp_ite_f ?_ | refine wp_faddr ?_ | refine wp_nilchk ?_ | refine wp_op (o := .mv _) rfl ?_ | refine wp_op (o := .pick _ _ _) rfl ?_ | refine wp_op (o := .extract _ _) rfl ?_)
      exact empty S8 H (by unfold cnum; omega)
    repeat (first | refine wp_gop_t ?_ | refine wp_gop_f rfl ?_ | refine wp_gop_u ?_ | refine wp_gcall_t ?_ | refine wp_gcall_f rfl ?_ | refine wp_gcall_u ?_ | refine wp_ite_t ?_ | refine wp_ite_f ?_ | refine wp_faddr ?_ | refine wp_nilchk ?_ | refine wp_op (o := .mv _) rfl ?_ | refine wp_op (o := .pick _ _ _) rfl ?_ | refine wp_op (o := .extract _ _) rfl ?_)
    refine wp_load0 H (cs := [I b]) (by repeat (first | exact List.Mem.head _ | apply List.Mem.tail)) rfl ?_
    repeat (first | refine wp_gop_t ?_ | refine wp_gop_f rfl ?_ | refine wp_gop_u ?_ | refine wp_gcall_t ?_ | refine wp_gcall_f rfl ?_ | refine wp_gcall_u ?_ | refine wp_ite_t ?_ | refine wp_ite_f ?_ | refine wp_faddr ?_ | refine wp_nilchk ?_ | refine wp_op (o := .mv _) rfl ?_ | refine wp_op (o := .pick _ _ _) rfl ?_ | refine wp_op (o := .extract _ _) rfl ?_)
    refine wp_geq (fun hge => ?_) (fun hlt => ?_)
    · repeat (first | refine wp_gop_t ?_ | refine wp_gop_f rfl ?_ | refine wp_gop_u ?_ | refine wp_gcall_t ?_ | refine wp_gcall_f rfl ?_ | refine wp_gcall_u ?_ | refine wp_ite_t ?_ | refine wp_ite_f ?_ | refine wp_faddr ?_ | refine wp_nilchk ?_ | refine wp_op (o := .mv _) rfl ?_ | refine wp_op (o := .pick _ _ _) rfl ?_ | refine wp_op (o := .extract _ _) rfl ?_)
      exact empty S8 H (by unfold cnum count; rw [if_neg (by omega)]; omega)
    repeat (first | refine wp_gop_t ?_ | refine wp_gop_f rfl ?_ | refine wp_gop_u ?_ | refine wp_gcall_t ?_ | refine wp_gcall_f rfl ?_ | refine wp_gcall_u ?_ | refine wp_ite_t ?_ | refine wp_ite_f ?_ | refine wp_faddr ?_ | refine wp_nilchk ?_ | refine wp_op (o := .mv _) rfl ?_ | refine wp_op (o := .pick _ _ _) rfl ?_ | refine wp_op (o := .extract _ _) rfl ?_)
    have hab := since_mono hT (show a ≤ b by omega)
    have hcn : cnum x a b most = (min (since x.first x.every b - since x.first x.every a) (min most 4096)).toNat := by unfold cnum count; rw [if_pos ⟨ht, hlt⟩]; omega
    refine wp_loada H (cs := [I x.first, I x.every]) (by repeat (first | exact List.Mem.head _ | apply List.Mem.tail)) (Nat.le_of_ble_eq_true rfl) ?_
    refine wp_loada H (cs := [I x.first, I x.every]) (by repeat (first | exact List.Mem.head _ | apply List.Mem.tail)) (Nat.le_of_ble_eq_true rfl) ?_
    refine wp_callV H (since_ok hT) fun S9 H => ?_
    refine wp_chkn (j := 0) (cs := [I x.first, I x.every]) H (by repeat (first | exact List.Mem.head _ | apply List.Mem.tail)) (Nat.le_of_ble_eq_true rfl) rfl cl_beq ?_
    refine times41 H fun pn pc S10 H => ?_
    refine wp_bind ?_
    unfold ctimes
    rw [hcn]
    generalize since x.first x.every a = s at sa hab hcn H ⊢
    generalize hq : min most 4096 = q at hm hcn H ⊢
    have hq2 : q ≤ 4096 := by omega
    refine wp_rngX (Done := fun p S' => (p = none ∨ p = some (.exit 0)) ∧ ∃ u, Cx S [] S' [.sl u 1 (ints (tl x.first x.every s (min (since x.first x.every b - s) q).toNat)), .obj o (.row [u])] []) (H.addOwn (x := .sl Ns 1 []) (Grows.refl _) (.inl ⟨rfl, rfl⟩) (by simp [Own.ids, vids])) (by intro i e; cases e) ?_ ?_ ?_
    · intro l S11 H
      refine wpC_mono (iter_ok hT sa.1 sa.2 (fun i S' => s ≤ i ∧ i ≤ since x.first x.every b ∧ i - s < q ∧ ∃ u, Cx S [] S' [.obj l (.loop .ready none 1 fun v26 => .start (nth v26 0) (.bind (Try.a21x2 (.ptr b2 0) (.ptr b3 0) (.ptr o 0) v26) (some 1) (fun v27 => .ret .normal []) (fun v27 => []))), .sl u 1 (ints (tl x.first x.every s (i - s).toNat)), .obj o (.row [u])] [.pt pn 0 [I s], .pt pc 0 [I x.first, I x.every], .pt b3 0 [I q], .pt b2 0 [I b]])
        (fun S' => ∃ u, Cx S [] S' [.obj l (.loop .done (some (.exit 0)) 1 fun v26 => .start (nth v26 0) (.bind (Try.a21x2 (.ptr b2 0) (.ptr b3 0) (.ptr o 0) v26) (some 1) (fun v27 => .ret .normal []) (fun v27 => []))), .sl u 1 (ints (tl x.first x.every s (min (since x.first x.every b - s) q).toNat)), .obj o (.row [u])] []) ?_ ?_ ?_ ⟨Int.le_refl _, hab, by omega, Ns, ?_⟩) fun r S' hr => ?_
      · rintro i S' ⟨_, _, _, u, H⟩
        exact ⟨_, _, _, H.dropRo (by
          intro φ hφ
          exact List.mem_of_mem_take (i := 2) hφ)⟩
      · rintro i S' S'' ⟨h1, h2, h3, u, H⟩ hg
        exact ⟨h1, h2, h3, u, H.grow hg⟩
      · rintro i S' h1 h2 ⟨_, h4, h5, u, H⟩
        have htl := time_lt (b := b) hT (by omega) h2
        have hbd := time_bd hT (n := i) (by omega) h2
        have hf0 := hT.f0
        have hf1 := hT.f1
        refine wpC_ydX H 0 rfl rfl ?_
        refine wp_startO H 0 rfl fun S12 H => ?_
        refine wp_bind ?_
        unfold Try.a21x2
        refine wp_load0 H (cs := [I b]) (by repeat (first | exact List.Mem.head _ | apply List.Mem.tail)) rfl ?_
        refine wp_geq (a := x.first + i * x.every) (fun hge => ?_) (fun hlt2 => ?_)
        · repeat (first | refine wp_gop_t ?_ | refine wp_gop_f rfl ?_ | refine wp_gop_u ?_ | refine wp_gcall_t ?_ | refine wp_gcall_f rfl ?_ | refine wp_gcall_u ?_ | refine wp_ite_t ?_ | refine wp_ite_f ?_ | refine wp_faddr ?_ | refine wp_nilchk ?_ | refine wp_op (o := .mv _) rfl ?_ | refine wp_op (o := .pick _ _ _) rfl ?_ | refine wp_op (o := .extract _ _) rfl ?_)
          have hi : i = since x.first x.every b := by
            have : ¬ i < since x.first x.every b := fun h => by have := htl.2 h; omega
            omega
          have e : (min (since x.first x.every b - s) q).toNat = (i - s).toNat := by omega
          refine wp_ret ⟨_, _, H, rfl, .inr ⟨by simp, fun S13 H => .inr ⟨rfl, u, ?_⟩⟩⟩
          rw [e]
          exact H.dropRo (by simp)
        · have hi := htl.1 hlt2
          repeat (first | refine wp_gop_t ?_ | refine wp_gop_f rfl ?_ | refine wp_gop_u ?_ | refine wp_gcall_t ?_ | refine wp_gcall_f rfl ?_ | refine wp_gcall_u ?_ | refine wp_ite_t ?_ | refine wp_ite_f ?_ | refine wp_faddr ?_ | refine wp_nilchk ?_ | refine wp_op (o := .mv _) rfl ?_ | refine wp_op (o := .pick _ _ _) rfl ?_ | refine wp_op (o := .extract _ _) rfl ?_)
          refine wp_loado (v := u) H 2 rfl rfl ?_
          refine wp_push (x := I (x.first + i * x.every)) H 1 rfl rfl rfl rfl (by rw [ints_len, tl_len]; unfold maxBytes; omega) (by rw [ints_len, tl_len]; unfold maxLenN; omega) fun u1 S13 H => ?_
          have hod := slOk_odd (H.ownSl (n := 1) (v := u1) (es := 1) (L := ints (tl x.first x.every s (i - s).toNat) ++ [[I (x.first + i * x.every)]]) rfl).1
          refine wp_store H 2 rfl hod.1 (by rw [hod.2]; rfl) (Nat.le_of_ble_eq_true rfl) fun S14 H => ?_
          rw [hod.2] at H
          have en : tl x.first x.every s (i + 1 - s).toNat = tl x.first x.every s (i - s).toNat ++ [x.first + i * x.every] := by
            rw [show (i + 1 - s).toNat = (i - s).toNat + 1 by omega, tl_succ]
            congr 3
            rw [show s + ((i - s).toNat : Int) = i by omega]
          have en' : ints (tl x.first x.every s (i - s).toNat) ++ [(I (x.first + i * x.every)).cells] = ints (tl x.first x.every s (i + 1 - s).toNat) := by rw [en]; exact (ints_snoc _ _).symm
          rw [en'] at H
          refine wp_loado (v := u1) H 2 rfl rfl ?_
          refine wp_leno (v := u1) (es := 1) (L := ints (tl x.first x.every s (i + 1 - s).toNat)) H 1 rfl ?_
          rw [ints_len, tl_len]
          refine wp_load0 H (cs := [I q]) (by repeat (first | exact List.Mem.head _ | apply List.Mem.tail)) rfl ?_
          refine wp_eql (fun he => ?_) (fun hne => ?_)
          · repeat (first | refine wp_gop_t ?_ | refine wp_gop_f rfl ?_ | refine wp_gop_u ?_ | refine wp_gcall_t ?_ | refine wp_gcall_f rfl ?_ | refine wp_gcall_u ?_ | refine wp_ite_t ?_ | refine wp_ite_f ?_ | refine wp_faddr ?_ | refine wp_nilchk ?_ | refine wp_op (o := .mv _) rfl ?_ | refine wp_op (o := .pick _ _ _) rfl ?_ | refine wp_op (o := .extract _ _) rfl ?_)
            have e : (min (since x.first x.every b - s) q).toNat = (i + 1 - s).toNat := by omega
            refine wp_ret ⟨_, _, H, rfl, .inr ⟨by simp, fun S15 H => .inr ⟨rfl, u1, ?_⟩⟩⟩
            rw [e]
            exact H.dropRo (by simp)
          · repeat (first | refine wp_gop_t ?_ | refine wp_gop_f rfl ?_ | refine wp_gop_u ?_ | refine wp_gcall_t ?_ | refine wp_gcall_f rfl ?_ | refine wp_gcall_u ?_ | refine wp_ite_t ?_ | refine wp_ite_f ?_ | refine wp_faddr ?_ | refine wp_nilchk ?_ | refine wp_op (o := .mv _) rfl ?_ | refine wp_op (o := .pick _ _ _) rfl ?_ | refine wp_op (o := .extract _ _) rfl ?_)
            refine wp_ret (wp_ret ⟨_, _, H, rfl, .inl ⟨rfl, fun S15 H => .inl ⟨rfl, by omega, by omega, by omega, u1, H⟩⟩⟩)
      · rw [show (s - s).toNat = 0 by omega]
        exact H.dropRo (by
          intro φ hφ
          simp only [List.mem_cons, List.not_mem_nil, or_false] at hφ ⊢
          rcases hφ with rfl | rfl | rfl | rfl <;> simp)
      · rcases hr with ⟨h1, h2, h3, u, H⟩ | ⟨u, H⟩
        · refine ⟨_, _, _, _, H.oh _ (List.Mem.head _), by simp, fun S2 e1 e2 => ⟨.inl rfl, u, ?_⟩⟩
          have e : (min (since x.first x.every b - s) q).toNat = (many x.first x.every - s).toNat := by omega
          rw [e]
          exact (H.other (n := 0) rfl e1 e2).dropRo (by simp)
        · exact ⟨_, _, _, _, H.oh _ (List.Mem.head _), by simp, fun S2 e1 e2 => ⟨.inr rfl, u, (H.other (n := 0) rfl e1 e2).dropRo (by simp)⟩⟩
    · rintro S11 ⟨_, u, H⟩
      refine wp_ret ?_
      show wp EM _ _ _
      refine wp_loado (v := u) H 1 rfl rfl ?_
      exact wp_ret ⟨rfl, H.dropOwn (List.Sublist.cons_cons _ (List.nil_sublist _))⟩
    · rintro t S11 ⟨ht, u, H⟩
      rcases ht with ht | ht
      · cases ht
      · cases ht
        show wp EM _ _ _
        refine wp_loado (v := u) H 1 rfl rfl ?_
        exact wp_ret ⟨rfl, H.dropOwn (List.Sublist.cons_cons _ (List.nil_sublist _))⟩
end Go.Abs
namespace Go.Abs
open Go.Proofs
set_option maxRecDepth 100000
/-! tables -/
def allN (l : List Tk) (a b : Int) : Nat → Int
  | 0 => 0
  | i + 1 => allN l a b i + (match l[i]? with | some x => count x a b | none => 0)
theorem count_bd (x : Tk) (a b : Int) : 0 ≤ count x a b ∧ count x a b ≤ 1099511627777 := by
  unfold count
  split
  · rename_i h
    have hT := timed_ok h.1
    have := since_mono hT (show a ≤ b by omega)
    have := since_bd (now := a) hT
    have := since_bd (now := b) hT
    have := many_bd hT
    omega
  · omega
theorem allN_bd (l : List Tk) (a b : Int) : ∀ i : Nat, 0 ≤ allN l a b i ∧ allN l a b i ≤ 1099511627777 * i
  | 0 => ⟨Int.le_refl _, Int.le_refl _⟩
  | i + 1 => by
    have := allN_bd l a b i
    unfold allN
    split
    · rename_i x _
      have := count_bd x a b
      omega
    · omega
theorem allN_succ {l : List Tk} {a b : Int} {i : Nat} (hi : i < l.length) : allN l a b (i + 1) = allN l a b i + count l[i] a b := by
  conv => lhs; unfold allN
  rw [List.getElem?_eq_getElem hi]
def all (l : List Tk) (a b : Int) : Int := if tchk l = 0 then allN l a b l.length else 0
theorem tchk_len {l : List Tk} (h : tchk l = 0) : l.length ≤ 32 := by
  unfold tchk at h
  split at h
  · cases h
  · omega
theorem all_ok {S : AH} {v : AV} {l : List Tk} {a b : Int} (hv : RoSl S v 4 (tks l)) : wpC EM (.fn (.func 31) [] []) [v, I a, I b] S fun r S' => r = I (all l a b) ∧ Grows S S' := by
  refine wpC_fn (b := Try.a31) rfl rfl ?_
  have H := Cx.ro1 hv
  unfold Try.a31 all
  refine wp_callV H (check_ok (H.roSl (by repeat (first | exact List.Mem.head _ | apply List.Mem.tail)))) fun S1 H => ?_
  refine wp_neq (fun hne => ?_) (fun he => ?_)
  · rw [if_neg hne]
    repeat (first | refine wp_gop_t ?_ | refine wp_gop_f rfl ?_ | refine wp_gop_u ?_ | refine wp_gcall_t ?_ | refine wp_gcall_f rfl ?_ | refine wp_gcall_u ?_ | refine wp_ite_t ?_ | refine wp_ite_f ?_ | refine wp_faddr ?_ | refine wp_nilchk ?_ | refine wp_op (o := .mv _) rfl ?_ | refine wp_op (o := .pick _ _ _) rfl ?_ | refine wp_op (o := .extract _ _) rfl ?_)
    exact wp_ret ⟨rfl, rfl, H.grows⟩
  rw [if_pos he]
  have hlen := tchk_len he
  repeat (first | refine wp_gop_t ?_ | refine wp_gop_f rfl ?_ | refine wp_gop_u ?_ | refine wp_gcall_t ?_ | refine wp_gcall_f rfl ?_ | refine wp_gcall_u ?_ | refine wp_ite_t ?_ | refine wp_ite_f ?_ | refine wp_faddr ?_ | refine wp_nilchk ?_ | refine wp_op (o := .mv _) rfl ?_ | refine wp_op (o := .pick _ _ _) rfl ?_ | refine wp_op (o := .extract _ _) rfl ?_)
  refine wp_len H (by repeat (first | exact List.Mem.head _ | apply List.Mem.tail)) ?_
  rw [tks_len]
  refine wp_bind (wp_loop (wpL_for l.length (fun i vs S1 => vs = [I (i : Int), I (allN l a b i)] ∧ Cx S [] S1 [] [.sl v 4 (tks l)]) ?_ ?_ ⟨rfl, H⟩))
  · rintro i vs S1 hlt ⟨rfl, H⟩
    refine wp_lss_t (by omega) ?_
    repeat (first | refine wp_gop_t ?_ | refine wp_gop_f rfl ?_ | refine wp_gop_u ?_ | refine wp_gcall_t ?_ | refine wp_gcall_f rfl ?_ | refine wp_gcall_u ?_ | refine wp_ite_t ?_ | refine wp_ite_f ?_ | refine wp_faddr ?_ | refine wp_nilchk ?_ | refine wp_op (o := .mv _) rfl ?_ | refine wp_op (o := .pick _ _ _) rfl ?_ | refine wp_op (o := .extract _ _) rfl ?_)
    refine wp_bind ?_
    refine wp_saddr (i := i) H (by repeat (first | exact List.Mem.head _ | apply List.Mem.tail)) (tks_get hlt) fun p off H => ?_
    refine wp_loada H (cs := l[i].cs) (by repeat (first | exact List.Mem.head _ | apply List.Mem.tail)) (Nat.le_of_ble_eq_true rfl) ?_
    refine wp_alloc H fun b0 S3 H => ?_
    refine wp_store H 0 rfl rfl rfl (Nat.le_of_ble_eq_true rfl) fun S4 H => ?_
    replace H : Cx S [] S4 [] [.pt b0 0 l[i].cs, .pt p off l[i].cs, .sl v 4 (tks l)] := H.freeze (i := 0) (c := l[i].cs) rfl
    refine wp_loada H (cs := l[i].cs) (by repeat (first | exact List.Mem.head _ | apply List.Mem.tail)) (Nat.le_of_ble_eq_true rfl) ?_
    refine wp_callV H count_ok fun S5 H => ?_
    have h1 := allN_bd l a b i
    have h2 := count_bd l[i] a b
    refine wp_add64 (by omega) (by omega) ?_
    refine wp_ret ?_
    show wp EM _ _ _
    refine wp_add64 (by omega) (by omega) (wp_ret (.inl ⟨rfl, ?_, H.tl.tl⟩))
    rw [allN_succ hlt]; rfl
  · rintro vs S1 ⟨rfl, H⟩
    refine wp_lss_f (by omega) ?_
    repeat (first | refine wp_gop_t ?_ | refine wp_gop_f rfl ?_ | refine wp_gop_u ?_ | refine wp_gcall_t ?_ | refine wp_gcall_f rfl ?_ | refine wp_gcall_u ?_ | refine wp_ite_t ?_ | refine wp_ite_f ?_ | refine wp_faddr ?_ | refine wp_nilchk ?_ | refine wp_op (o := .mv _) rfl ?_ | refine wp_op (o := .pick _ _ _) rfl ?_ | refine wp_op (o := .extract _ _) rfl ?_)
    exact wp_ret ⟨by simp, wp_ret ⟨rfl, rfl, H.grows⟩⟩
theorem refAll_ok {S : AH} {v : AV} {l : List Tk} {a b : Int} (hv : RoSl S v 4 (tks l)) : wpC EM (.fn (.func 32) [] []) [v, I a, I b] S fun r S' => r = I (all l a b) ∧ Grows S S' := by
  refine wpC_fn (b := Try.a32) rfl rfl ?_
  have H := Cx.ro1 hv
  unfold Try.a32 all
  refine wp_callV H (refCheck_ok (H.roSl (by repeat (first | exact List.Mem.head _ | apply List.Mem.tail)))) fun S1 H => ?_
  refine wp_neq (fun hne => ?_) (fun he => ?_)
  · rw [if_neg hne]
    repeat (first | refine wp_gop_t ?_ | refine wp_gop_f rfl ?_ | refine wp_gop_u ?_ | refine wp_gcall_t ?_ | refine wp_gcall_f rfl ?_ | refine wp_gcall_u ?_ | refine wp_ite_t ?_ | refine wp_ite_f ?_ | refine wp_faddr ?_ | refine wp_nilchk ?_ | refine wp_op (o := .mv _) rfl ?_ | refine wp_op (o := .pick _ _ _) rfl ?_ | refine wp_op (o := .extract _ _) rfl ?_)
    exact wp_ret ⟨rfl, rfl, H.grows⟩
  rw [if_pos he]
  have hlen := tchk_len he
  repeat (first | refine wp_gop_t ?_ | refine wp_gop_f rfl ?_ | refine wp_gop_u ?_ | refine wp_gcall_t ?_ | refine wp_gcall_f rfl ?_ | refine wp_gcall_u ?_ | refine wp_ite_t ?_ | refine wp_ite_f ?_ | refine wp_faddr ?_ | refine wp_nilchk ?_ | refine wp_op (o := .mv _) rfl ?_ | refine wp_op (o := .pick _ _ _) rfl ?_ | refine wp_op (o := .extract _ _) rfl ?_)
  refine wp_bind (wp_loop (wpL_for l.length (fun i vs S1 => vs = [I (i : Int), I (allN l a b i)] ∧ Cx S [] S1 [] [.sl v 4 (tks l)]) ?_ ?_ ⟨rfl, H⟩))
  · rintro i vs S1 hlt ⟨rfl, H⟩
    refine wp_len H (by repeat (first | exact List.Mem.head _ | apply List.Mem.tail)) ?_
    rw [tks_len]
    refine wp_lss_t (by omega) ?_
    repeat (first | refine wp_gop_t ?_ | refine wp_gop_f rfl ?_ | refine wp_gop_u ?_ | refine wp_gcall_t ?_ | refine wp_gcall_f rfl ?_ | refine wp_gcall_u ?_ | refine wp_ite_t ?_ | refine wp_ite_f ?_ | refine wp_faddr ?_ | refine wp_nilchk ?_ | refine wp_op (o := .mv _) rfl ?_ | refine wp_op (o := .pick _ _ _) rfl ?_ | refine wp_op (o := .extract _ _) rfl ?_)
    refine wp_bind ?_
    refine wp_saddr (i := i) H (by repeat (first | exact List.Mem.head _ | apply List.Mem.tail)) (tks_get hlt) fun p off H => ?_
    refine wp_loada H (cs := l[i].cs) (by repeat (first | exact List.Mem.head _ | apply List.Mem.tail)) (Nat.le_of_ble_eq_true rfl) ?_
    refine wp_callV H refCount_ok fun S5 H => ?_
    have h1 := allN_bd l a b i
    have h2 := count_bd l[i] a b
    refine wp_add64 (by omega) (by omega) ?_
    refine wp_ret ?_
    show wp EM _ _ _
    refine wp_add64 (by omega) (by omega) (wp_ret (.inl ⟨rfl, ?_, H.tl⟩))
    rw [allN_succ hlt]; rfl
  · rintro vs S1 ⟨rfl, H⟩
    refine wp_len H (by repeat (first | exact List.Mem.head _ | apply List.Mem.tail)) ?_
    rw [tks_len]
    refine wp_lss_f (by omega) ?_
    repeat (first | refine wp_gop_t ?_ | refine wp_gop_f rfl ?_ | refine wp_gop_u ?_ | refine wp_gcall_t ?_ | refine wp_gcall_f rfl ?_ | refine wp_gcall_u ?_ | refine wp_ite_t ?_ | refine wp_ite_f ?_ | refine wp_faddr ?_ | refine wp_nilchk ?_ | refine wp_op (o := .mv _) rfl ?_ | refine wp_op (o := .pick _ _ _) rfl ?_ | refine wp_op (o := .extract _ _) rfl ?_)
    exact wp_ret ⟨by simp, wp_ret ⟨rfl, rfl, H.grows⟩⟩

def isNow (x : Tk) (now : Int) : Bool := decide (timed x = true ∧ since x.first x.every now < many x.first x.every ∧ x.first + since x.first x.every now * x.every = now)
def dueN (l : List Tk) (now : Int) : Nat → List Int
  | 0 => []
  | i + 1 => match l[i]? with
    | some x => if isNow x now = true then dueN l now i ++ [(i : Int)] else dueN l now i
    | none => dueN l now i
theorem dueN_succ {l : List Tk} {now : Int} {i : Nat} (hi : i < l.length) : dueN l now (i + 1) = if isNow l[i] now = true then dueN l now i ++ [(i : Int)] else dueN l now i := by
  conv => lhs; unfold dueN
  rw [List.getElem?_eq_getElem hi]
theorem dueN_len (l : List Tk) (now : Int) : ∀ i : Nat, (dueN l now i).length ≤ i
  | 0 => Nat.le_refl _
  | i + 1 => by
    have := dueN_len l now i
    unfold dueN
    split
    · split
      · simp; omega
      · omega
    · omega
def due (l : List Tk) (now : Int) : List Int := if tchk l = 0 then dueN l now l.length else []
theorem due_len (l : List Tk) (now : Int) : (due l now).length ≤ 32 := by
  unfold due
  split
  · rename_i h
    have := tchk_len h
    have := dueN_len l now l.length
    omega
  · simp
theorem due_ok {S : AH} {v : AV} {l : List Tk} {now : Int} (hv : RoSl S v 4 (tks l)) : wpC EM (.fn (.func 29) [] []) [v, I now] S fun r S' => Cx S [] S' [.sl r 1 (ints (due l now))] [] := by
  refine wpC_fn (b := Try.a29) rfl rfl ?_
  have H := Cx.ro1 hv
  unfold Try.a29 due
  refine wp_callV H (check_ok (H.roSl (by repeat (first | exact List.Mem.head _ | apply List.Mem.tail)))) fun S1 H => ?_
  have H0 : Cx S [] S1 [.sl Ns 1 (ints [])] [.sl v 4 (tks l)] := H.addOwn (Grows.refl _) (.inl ⟨rfl, rfl⟩) (by simp [Own.ids, vids])
  refine wp_neq (fun hne => ?_) (fun he => ?_)
  · rw [if_neg hne]
    repeat (first | refine wp_gop_t ?_ | refine wp_gop_f rfl ?_ | refine wp_gop_u ?_ | refine wp_gcall_t ?_ | refine wp_gcall_f rfl ?_ | refine wp_gcall_u ?_ | refine wp_ite_t ?_ | refine wp_ite_f ?_ | refine wp_faddr ?_ | refine wp_nilchk ?_ | refine wp_op (o := .mv _) rfl ?_ | refine wp_op (o := .pick _ _ _) rfl ?_ | refine wp_op (o := .extract _ _) rfl ?_)
    exact wp_ret ⟨rfl, H0.dropRo (by simp)⟩
  rw [if_pos he]
  have hlen := tchk_len he
  repeat (first | refine wp_gop_t ?_ | refine wp_gop_f rfl ?_ | refine wp_gop_u ?_ | refine wp_gcall_t ?_ | refine wp_gcall_f rfl ?_ | refine wp_gcall_u ?_ | refine wp_ite_t ?_ | refine wp_ite_f ?_ | refine wp_faddr ?_ | refine wp_nilchk ?_ | refine wp_op (o := .mv _) rfl ?_ | refine wp_op (o := .pick _ _ _) rfl ?_ | refine wp_op (o := .extract _ _) rfl ?_)
  refine wp_len H (by repeat (first | exact List.Mem.head _ | apply List.Mem.tail)) ?_
  rw [tks_len]
  refine wp_bind (wp_loop (wpL_for l.length (fun i vs S1 => ∃ u : AV, vs = [I (i : Int), u] ∧ Cx S [] S1 [.sl u 1 (ints (dueN l now i))] [.sl v 4 (tks l)]) ?_ ?_ ⟨Ns, rfl, H0⟩))
  · rintro i vs S1 hlt ⟨u, rfl, H⟩
    have hdl := dueN_len l now i
    refine wp_lss_t (by omega) ?_
    repeat (first | refine wp_gop_t ?_ | refine wp_gop_f rfl ?_ | refine wp_gop_u ?_ | refine wp_gcall_t ?_ | refine wp_gcall_f rfl ?_ | refine wp_gcall_u ?_ | refine wp_ite_t ?_ | refine wp_ite_f ?_ | refine wp_faddr ?_ | refine wp_nilchk ?_ | refine wp_op (o := .mv _) rfl ?_ | refine wp_op (o := .pick _ _ _) rfl ?_ | refine wp_op (o := .extract _ _) rfl ?_)
    refine wp_bind ?_
    refine wp_saddr (i := i) H (by repeat (first | exact List.Mem.head _ | apply List.Mem.tail)) (tks_get hlt) fun p off H => ?_
    refine wp_loada H (cs := l[i].cs) (by repeat (first | exact List.Mem.head _ | apply List.Mem.tail)) (Nat.le_of_ble_eq_true rfl) ?_
    refine wp_alloc H fun b0 S3 H => ?_
    refine wp_store H 0 rfl rfl rfl (Nat.le_of_ble_eq_true rfl) fun S4 H => ?_
    replace H : Cx S [] S4 [.sl u 1 (ints (dueN l now i))] [.pt b0 0 l[i].cs, .pt p off l[i].cs, .sl v 4 (tks l)] := H.freeze (i := 0) (c := l[i].cs) rfl
    refine wp_loada H (cs := l[i].cs) (by repeat (first | exact List.Mem.head _ | apply List.Mem.tail)) (Nat.le_of_ble_eq_true rfl) ?_
    refine wp_callV H next_ok fun S5 H => ?_
    replace H := H.tl.tl
    unfold tnext
    by_cases hs : timed l[i] = true ∧ since l[i].first l[i].every now < many l[i].first l[i].every
    · rw [if_pos hs]
      repeat (first | refine wp_gop_t ?_ | refine wp_gop_f rfl ?_ | refine wp_gop_u ?_ | refine wp_gcall_t ?_ | refine wp_gcall_f rfl ?_ | refine wp_gcall_u ?_ | refine wp_ite_t ?_ | refine wp_ite_f ?_ | refine wp_faddr ?_ | refine wp_nilchk ?_ | refine wp_op (o := .mv _) rfl ?_ | refine wp_op (o := .pick _ _ _) rfl ?_ | refine wp_op (o := .extract _ _) rfl ?_)
      refine wp_eql (fun heq => ?_) (fun hne => ?_)
      · have hN : isNow l[i] now = true := decide_eq_true ⟨hs.1, hs.2, heq⟩
        repeat (first | refine wp_gop_t ?_ | refine wp_gop_f rfl ?_ | refine wp_gop_u ?_ | refine wp_gcall_t ?_ | refine wp_gcall_f rfl ?_ | refine wp_gcall_u ?_ | refine wp_ite_t ?_ | refine wp_ite_f ?_ | refine wp_faddr ?_ | refine wp_nilchk ?_ | refine wp_op (o := .mv _) rfl ?_ | refine wp_op (o := .pick _ _ _) rfl ?_ | refine wp_op (o := .extract _ _) rfl ?_)
        refine wp_bind ?_
        repeat (first | refine wp_gop_t ?_ | refine wp_gop_f rfl ?_ | refine wp_gop_u ?_ | refine wp_gcall_t ?_ | refine wp_gcall_f rfl ?_ | refine wp_gcall_u ?_ | refine wp_ite_t ?_ | refine wp_ite_f ?_ | refine wp_faddr ?_ | refine wp_nilchk ?_ | refine wp_op (o := .mv _) rfl ?_ | refine wp_op (o := .pick _ _ _) rfl ?_ | refine wp_op (o := .extract _ _) rfl ?_)
        refine wp_push H 0 rfl rfl rfl rfl (by rw [ints_len]; unfold maxBytes; omega) (by rw [ints_len]; unfold maxLenN; omega) fun u1 S6 H => ?_
        refine wp_ret (wp_ret ?_)
        show wp EM _ _ _
        refine wp_add64 (by omega) (by omega) (wp_ret (.inl ⟨rfl, u1, rfl, ?_⟩))
        rw [dueN_succ hlt, if_pos hN, ints_snoc]
        exact H
      · have hN : isNow l[i] now = false := decide_eq_false fun h => hne h.2.2
        repeat (first | refine wp_gop_t ?_ | refine wp_gop_f rfl ?_ | refine wp_gop_u ?_ | refine wp_gcall_t ?_ | refine wp_gcall_f rfl ?_ | refine wp_gcall_u ?_ | refine wp_ite_t ?_ | refine wp_ite_f ?_ | refine wp_faddr ?_ | refine wp_nilchk ?_ | refine wp_op (o := .mv _) rfl ?_ | refine wp_op (o := .pick _ _ _) rfl ?_ | refine wp_op (o := .extract _ _) rfl ?_)
        refine wp_bind ?_
        repeat (first | refine wp_gop_t ?_ | refine wp_gop_f rfl ?_ | refine wp_gop_u ?_ | refine wp_gcall_t ?_ | refine wp_gcall_f rfl ?_ | refine wp_gcall_u ?_ | refine wp_ite_t ?_ | refine wp_ite_f ?_ | refine wp_faddr ?_ | refine wp_nilchk ?_ | refine wp_op (o := .mv _) rfl ?_ | refine wp_op (o := .pick _ _ _) rfl ?_ | refine wp_op (o := .extract _ _) rfl ?_)
        refine wp_ret (wp_ret ?_)
        show wp EM _ _ _
        refine wp_add64 (by omega) (by omega) (wp_ret (.inl ⟨rfl, u, rfl, ?_⟩))
        rw [dueN_succ hlt, if_neg (by simp [hN])]
        exact H
    · have hN : isNow l[i] now = false := decide_eq_false fun h => hs ⟨h.1, h.2.1⟩
      rw [if_neg hs]
      repeat (first | refine wp_gop_t ?_ | refine wp_gop_f rfl ?_ | refine wp_gop_u ?_ | refine wp_gcall_t ?_ | refine wp_gcall_f rfl ?_ | refine wp_gcall_u ?_ | refine wp_ite_t ?_ | refine wp_ite_f ?_ | refine wp_faddr ?_ | refine wp_nilchk ?_ | refine wp_op (o := .mv _) rfl ?_ | refine wp_op (o := .pick _ _ _) rfl ?_ | refine wp_op (o := .extract _ _) rfl ?_)
      refine wp_bind ?_
      repeat (first | refine wp_gop_t ?_ | refine wp_gop_f rfl ?_ | refine wp_gop_u ?_ | refine wp_gcall_t ?_ | refine wp_gcall_f rfl ?_ | refine wp_gcall_u ?_ | refine wp_ite_t ?_ | refine wp_ite_f ?_ | refine wp_faddr ?_ | refine wp_nilchk ?_ | refine wp_op (o := .mv _) rfl ?_ | refine wp_op (o := .pick _ _ _) rfl ?_ | refine wp_op (o := .extract _ _) rfl ?_)
      refine wp_ret (wp_ret ?_)
      show wp EM _ _ _
      refine wp_add64 (by omega) (by omega) (wp_ret (.inl ⟨rfl, u, rfl, ?_⟩))
      rw [dueN_succ hlt, if_neg (by simp [hN])]
      exact H
  · rintro vs S1 ⟨u, rfl, H⟩
    refine wp_lss_f (by omega) ?_
    repeat (first | refine wp_gop_t ?_ | refine wp_gop_f rfl ?_ | refine wp_gop_u ?_ | refine wp_gcall_t ?_ | refine wp_gcall_f rfl ?_ | refine wp_gcall_u ?_ | refine wp_ite_t ?_ | refine wp_ite_f ?_ | refine wp_faddr ?_ | refine wp_nilchk ?_ | refine wp_op (o := .mv _) rfl ?_ | refine wp_op (o := .pick _ _ _) rfl ?_ | refine wp_op (o := .extract _ _) rfl ?_)
    exact wp_ret ⟨by simp, wp_ret ⟨rfl, H.dropRo (by simp)⟩⟩
theorem refDue_ok {S : AH} {v : AV} {l : List Tk} {now : Int} (hv : RoSl S v 4 (tks l)) : wpC EM (.fn (.func 33) [] []) [v, I now] S fun r S' => Cx S [] S' [.sl r 1 (ints (due l now))] [] := by
  refine wpC_fn (b := Try.a33) rfl rfl ?_
  have H := Cx.ro1 hv
  unfold Try.a33 due
  refine wp_callV H (refCheck_ok (H.roSl (by repeat (first | exact List.Mem.head _ | apply List.Mem.tail)))) fun S1 H => ?_
  have H0 : Cx S [] S1 [.sl Ns 1 (ints [])] [.sl v 4 (tks l)] := H.addOwn (Grows.refl _) (.inl ⟨rfl, rfl⟩) (by simp [Own.ids, vids])
  refine wp_neq (fun hne => ?_) (fun he => ?_)
  · rw [if_neg hne]
    repeat (first | refine wp_gop_t ?_ | refine wp_gop_f rfl ?_ | refine wp_gop_u ?_ | refine wp_gcall_t ?_ | refine wp_gcall_f rfl ?_ | refine wp_gcall_u ?_ | refine wp_ite_t ?_ | refine wp_ite_f ?_ | refine wp_faddr ?_ | refine wp_nilchk ?_ | refine wp_op (o := .mv _) rfl ?_ | refine wp_op (o := .pick _ _ _) rfl ?_ | refine wp_op (o := .extract _ _) rfl ?_)
    exact wp_ret ⟨rfl, H0.dropRo (by simp)⟩
  rw [if_pos he]
  have hlen := tchk_len he
  repeat (first | refine wp_gop_t ?_ | refine wp_gop_f rfl ?_ | refine wp_gop_u ?_ | refine wp_gcall_t ?_ | refine wp_gcall_f rfl ?_ | refine wp_gcall_u ?_ | refine wp_ite_t ?_ | refine wp_ite_f ?_ | refine wp_faddr ?_ | refine wp_nilchk ?_ | refine wp_op (o := .mv _) rfl ?_ | refine wp_op (o := .pick _ _ _) rfl ?_ | refine wp_op (o := .extract _ _) rfl ?_)
  refine wp_bind (wp_loop (wpL_for l.length (fun i vs S1 => ∃ u : AV, vs = [I (i : Int), u] ∧ Cx S [] S1 [.sl u 1 (ints (dueN l now i))] [.sl v 4 (tks l)]) ?_ ?_ ⟨Ns, rfl, H0⟩))
  · rintro i vs S1 hlt ⟨u, rfl, H⟩
    have hdl := dueN_len l now i
    refine wp_len H (by repeat (first | exact List.Mem.head _ | apply List.Mem.tail)) ?_
    rw [tks_len]
    refine wp_lss_t (by omega) ?_
    repeat (first | refine wp_gop_t ?_ | refine wp_gop_f rfl ?_ | refine wp_gop_u ?_ | refine wp_gcall_t ?_ | refine wp_gcall_f rfl ?_ | refine wp_gcall_u ?_ | refine wp_ite_t ?_ | refine wp_ite_f ?_ | refine wp_faddr ?_ | refine wp_nilchk ?_ | refine wp_op (o := .mv _) rfl ?_ | refine wp_op (o := .pick _ _ _) rfl ?_ | refine wp_op (o := .extract _ _) rfl ?_)
    refine wp_bind ?_
    refine wp_saddr (i := i) H (by repeat (first | exact List.Mem.head _ | apply List.Mem.tail)) (tks_get hlt) fun p off H => ?_
    refine wp_loada H (cs := l[i].cs) (by repeat (first | exact List.Mem.head _ | apply List.Mem.tail)) (Nat.le_of_ble_eq_true rfl) ?_
    refine wp_callV H refNext_ok fun S5 H => ?_
    replace H := H.tl
    unfold tnext
    by_cases hs : timed l[i] = true ∧ since l[i].first l[i].every now < many l[i].first l[i].every
    · rw [if_pos hs]
      repeat (first | refine wp_gop_t ?_ | refine wp_gop_f rfl ?_ | refine wp_gop_u ?_ | refine wp_gcall_t ?_ | refine wp_gcall_f rfl ?_ | refine wp_gcall_u ?_ | refine wp_ite_t ?_ | refine wp_ite_f ?_ | refine wp_faddr ?_ | refine wp_nilchk ?_ | refine wp_op (o := .mv _) rfl ?_ | refine wp_op (o := .pick _ _ _) rfl ?_ | refine wp_op (o := .extract _ _) rfl ?_)
      refine wp_eql (fun heq => ?_) (fun hne => ?_)
      · have hN : isNow l[i] now = true := decide_eq_true ⟨hs.1, hs.2, heq⟩
        repeat (first | refine wp_gop_t ?_ | refine wp_gop_f rfl ?_ | refine wp_gop_u ?_ | refine wp_gcall_t ?_ | refine wp_gcall_f rfl ?_ | refine wp_gcall_u ?_ | refine wp_ite_t ?_ | refine wp_ite_f ?_ | refine wp_faddr ?_ | refine wp_nilchk ?_ | refine wp_op (o := .mv _) rfl ?_ | refine wp_op (o := .pick _ _ _) rfl ?_ | refine wp_op (o := .extract _ _) rfl ?_)
        refine wp_bind ?_
        repeat (first | refine wp_gop_t ?_ | refine wp_gop_f rfl ?_ | refine wp_gop_u ?_ | refine wp_gcall_t ?_ | refine wp_gcall_f rfl ?_ | refine wp_gcall_u ?_ | refine wp_ite_t ?_ | refine wp_ite_f ?_ | refine wp_faddr ?_ | refine wp_nilchk ?_ | refine wp_op (o := .mv _) rfl ?_ | refine wp_op (o := .pick _ _ _) rfl ?_ | refine wp_op (o := .extract _ _) rfl ?_)
        refine wp_push H 0 rfl rfl rfl rfl (by rw [ints_len]; unfold maxBytes; omega) (by rw [ints_len]; unfold maxLenN; omega) fun u1 S6 H => ?_
        refine wp_ret (wp_ret ?_)
        show wp EM _ _ _
        refine wp_add64 (by omega) (by omega) (wp_ret (.inl ⟨rfl, u1, rfl, ?_⟩))
        rw [dueN_succ hlt, if_pos hN, ints_snoc]
        exact H
      · have hN : isNow l[i] now = false := decide_eq_false fun h => hne h.2.2
        repeat (first | refine wp_gop_t ?_ | refine wp_gop_f rfl ?_ | refine wp_gop_u ?_ | refine wp_gcall_t ?_ | refine wp_gcall_f rfl ?_ | refine wp_gcall_u ?_ | refine wp_ite_t ?_ | refine wp_ite_f ?_ | refine wp_faddr ?_ | refine wp_nilchk ?_ | refine wp_op (o := .mv _) rfl ?_ | refine wp_op (o := .pick _ _ _) rfl ?_ | refine wp_op (o := .extract _ _) rfl ?_)
        refine wp_bind ?_
        repeat (first | refine wp_gop_t ?_ | refine wp_gop_f rfl ?_ | refine wp_gop_u ?_ | refine wp_gcall_t ?_ | refine wp_gcall_f rfl ?_ | refine wp_gcall_u ?_ | refine wp_ite_t ?_ | refine wp_ite_f ?_ | refine wp_faddr ?_ | refine wp_nilchk ?_ | refine wp_op (o := .mv _) rfl ?_ | refine wp_op (o := .pick _ _ _) rfl ?_ | refine wp_op (o := .extract _ _) rfl ?_)
        refine wp_ret (wp_ret ?_)
        show wp EM _ _ _
        refine wp_add64 (by omega) (by omega) (wp_ret (.inl ⟨rfl, u, rfl, ?_⟩))
        rw [dueN_succ hlt, if_neg (by simp [hN])]
        exact H
    · have hN : isNow l[i] now = false := decide_eq_false fun h => hs ⟨h.1, h.2.1⟩
      rw [if_neg hs]
      repeat (first | refine wp_gop_t ?_ | refine wp_gop_f rfl ?_ | refine wp_gop_u ?_ | refine wp_gcall_t ?_ | refine wp_gcall_f rfl ?_ | refine wp_gcall_u ?_ | refine wp_ite_t ?_ | refine wp_ite_f ?_ | refine wp_faddr ?_ | refine wp_nilchk ?_ | refine wp_op (o := .mv _) rfl ?_ | refine wp_op (o := .pick _ _ _) rfl ?_ | refine wp_op (o := .extract _ _) rfl ?_)
      refine wp_bind ?_
      repeat (first | refine wp_gop_t ?_ | refine wp_gop_f rfl ?_ | refine wp_gop_u ?_ | refine wp_gcall_t ?_ | refine wp_gcall_f rfl ?_ | refine wp_gcall_u ?_ | refine wp_ite_t ?_ | refine wp_ite_f ?_ | refine wp_faddr ?_ | refine wp_nilchk ?_ | refine wp_op (o := .mv _) rfl ?_ | refine wp_op (o := .pick _ _ _) rfl ?_ | refine wp_op (o := .extract _ _) rfl ?_)
      refine wp_ret (wp_ret ?_)
      show wp EM _ _ _
      refine wp_add64 (by omega) (by omega) (wp_ret (.inl ⟨rfl, u, rfl, ?_⟩))
      rw [dueN_succ hlt, if_neg (by simp [hN])]
      exact H
  · rintro vs S1 ⟨u, rfl, H⟩
    refine wp_len H (by repeat (first | exact List.Mem.head _ | apply List.Mem.tail)) ?_
    rw [tks_len]
    refine wp_lss_f (by omega) ?_
    repeat (first | refine wp_gop_t ?_ | refine wp_gop_f rfl ?_ | refine wp_gop_u ?_ | refine wp_gcall_t ?_ | refine wp_gcall_f rfl ?_ | refine wp_gcall_u ?_ | refine wp_ite_t ?_ | refine wp_ite_f ?_ | refine wp_faddr ?_ | refine wp_nilchk ?_ | refine wp_op (o := .mv _) rfl ?_ | refine wp_op (o := .pick _ _ _) rfl ?_ | refine wp_op (o := .extract _ _) rfl ?_)
    exact wp_ret ⟨by simp, wp_ret ⟨rfl, H.dropRo (by simp)⟩⟩
/-! homes -/
def home (t cores : Int) : Int := if t < 0 ∨ cores < 1 ∨ 64 < cores then -1 else t.tmod cores
theorem home_ok {S : AH} {t cores : Int} : wpC EM (.fn (.func 35) [] []) [I t, I cores] S fun r S' => r = I (home t cores) ∧ Grows S S' := by
  refine wpC_fn (b := Try.a35) rfl rfl ?_
  have H : Cx S [] S [] [] := Cx.enter (by simp)
  unfold Try.a35 home
  refine wp_lss (fun h1 => ?_) (fun h1 => ?_)
  · rw [if_pos (by omega)]
    repeat (first | refine wp_gop_t ?_ | refine wp_gop_f rfl ?_ | refine wp_gop_u ?_ | refine wp_gcall_t ?_ | refine wp_gcall_f rfl ?_ | refine wp_gcall_u ?_ | refine wp_ite_t ?_ | refine wp_ite_f ?_ | refine wp_faddr ?_ | refine wp_nilchk ?_ | refine wp_op (o := .mv _) rfl ?_ | refine wp_op (o := .pick _ _ _) rfl ?_ | refine wp_op (o := .extract _ _) rfl ?_)
    exact wp_ret ⟨rfl, rfl, H.grows⟩
  repeat (first | refine wp_gop_t ?_ | refine wp_gop_f rfl ?_ | refine wp_gop_u ?_ | refine wp_gcall_t ?_ | refine wp_gcall_f rfl ?_ | refine wp_gcall_u ?_ | refine wp_ite_t ?_ | refine wp_ite_f ?_ | refine wp_faddr ?_ | refine wp_nilchk ?_ | refine wp_op (o := .mv _) rfl ?_ | refine wp_op (o := .pick _ _ _) rfl ?_ | refine wp_op (o := .extract _ _) rfl ?_)
  refine wp_lss (fun h2 => ?_) (fun h2 => ?_)
  · rw [if_pos (by omega)]
    repeat (first | refine wp_gop_t ?_ | refine wp_gop_f rfl ?_ | refine wp_gop_u ?_ | refine wp_gcall_t ?_ | refine wp_gcall_f rfl ?_ | refine wp_gcall_u ?_ | refine wp_ite_t ?_ | refine wp_ite_f ?_ | refine wp_faddr ?_ | refine wp_nilchk ?_ | refine wp_op (o := .mv _) rfl ?_ | refine wp_op (o := .pick _ _ _) rfl ?_ | refine wp_op (o := .extract _ _) rfl ?_)
    exact wp_ret ⟨rfl, rfl, H.grows⟩
  repeat (first | refine wp_gop_t ?_ | refine wp_gop_f rfl ?_ | refine wp_gop_u ?_ | refine wp_gcall_t ?_ | refine wp_gcall_f rfl ?_ | refine wp_gcall_u ?_ | refine wp_ite_t ?_ | refine wp_ite_f ?_ | refine wp_faddr ?_ | refine wp_nilchk ?_ | refine wp_op (o := .mv _) rfl ?_ | refine wp_op (o := .pick _ _ _) rfl ?_ | refine wp_op (o := .extract _ _) rfl ?_)
  refine wp_gtr (fun h3 => ?_) (fun h3 => ?_)
  · rw [if_pos (by omega)]
    repeat (first | refine wp_gop_t ?_ | refine wp_gop_f rfl ?_ | refine wp_gop_u ?_ | refine wp_gcall_t ?_ | refine wp_gcall_f rfl ?_ | refine wp_gcall_u ?_ | refine wp_ite_t ?_ | refine wp_ite_f ?_ | refine wp_faddr ?_ | refine wp_nilchk ?_ | refine wp_op (o := .mv _) rfl ?_ | refine wp_op (o := .pick _ _ _) rfl ?_ | refine wp_op (o := .extract _ _) rfl ?_)
    exact wp_ret ⟨rfl, rfl, H.grows⟩
  rw [if_neg (by omega)]
  repeat (first | refine wp_gop_t ?_ | refine wp_gop_f rfl ?_ | refine wp_gop_u ?_ | refine wp_gcall_t ?_ | refine wp_gcall_f rfl ?_ | refine wp_gcall_u ?_ | refine wp_ite_t ?_ | refine wp_ite_f ?_ | refine wp_faddr ?_ | refine wp_nilchk ?_ | refine wp_op (o := .mv _) rfl ?_ | refine wp_op (o := .pick _ _ _) rfl ?_ | refine wp_op (o := .extract _ _) rfl ?_)
  refine wp_rem (by omega) ?_
  exact wp_ret ⟨rfl, rfl, H.grows⟩
theorem refHome_ok {S : AH} {t cores : Int} : wpC EM (.fn (.func 36) [] []) [I t, I cores] S fun r S' => r = I (home t cores) ∧ Grows S S' := by
  refine wpC_fn (b := Try.a36) rfl rfl ?_
  have H : Cx S [] S [] [] := Cx.enter (by simp)
  unfold Try.a36 home
  refine wp_lss (fun h1 => ?_) (fun h1 => ?_)
  · rw [if_pos (by omega)]
    repeat (first | refine wp_gop_t ?_ | refine wp_gop_f rfl ?_ | refine wp_gop_u ?_ | refine wp_gcall_t ?_ | refine wp_gcall_f rfl ?_ | refine wp_gcall_u ?_ | refine wp_ite_t ?_ | refine wp_ite_f ?_ | refine wp_faddr ?_ | refine wp_nilchk ?_ | refine wp_op (o := .mv _) rfl ?_ | refine wp_op (o := .pick _ _ _) rfl ?_ | refine wp_op (o := .extract _ _) rfl ?_)
    exact wp_ret ⟨rfl, rfl, H.grows⟩
  repeat (first | refine wp_gop_t ?_ | refine wp_gop_f rfl ?_ | refine wp_gop_u ?_ | refine wp_gcall_t ?_ | refine wp_gcall_f rfl ?_ | refine wp_gcall_u ?_ | refine wp_ite_t ?_ | refine wp_ite_f ?_ | refine wp_faddr ?_ | refine wp_nilchk ?_ | refine wp_op (o := .mv _) rfl ?_ | refine wp_op (o := .pick _ _ _) rfl ?_ | refine wp_op (o := .extract _ _) rfl ?_)
  refine wp_lss (fun h2 => ?_) (fun h2 => ?_)
  · rw [if_pos (by omega)]
    repeat (first | refine wp_gop_t ?_ | refine wp_gop_f rfl ?_ | refine wp_gop_u ?_ | refine wp_gcall_t ?_ | refine wp_gcall_f rfl ?_ | refine wp_gcall_u ?_ | refine wp_ite_t ?_ | refine wp_ite_f ?_ | refine wp_faddr ?_ | refine wp_nilchk ?_ | refine wp_op (o := .mv _) rfl ?_ | refine wp_op (o := .pick _ _ _) rfl ?_ | refine wp_op (o := .extract _ _) rfl ?_)
    exact wp_ret ⟨rfl, rfl, H.grows⟩
  repeat (first | refine wp_gop_t ?_ | refine wp_gop_f rfl ?_ | refine wp_gop_u ?_ | refine wp_gcall_t ?_ | refine wp_gcall_f rfl ?_ | refine wp_gcall_u ?_ | refine wp_ite_t ?_ | refine wp_ite_f ?_ | refine wp_faddr ?_ | refine wp_nilchk ?_ | refine wp_op (o := .mv _) rfl ?_ | refine wp_op (o := .pick _ _ _) rfl ?_ | refine wp_op (o := .extract _ _) rfl ?_)
  refine wp_gtr (fun h3 => ?_) (fun h3 => ?_)
  · rw [if_pos (by omega)]
    repeat (first | refine wp_gop_t ?_ | refine wp_gop_f rfl ?_ | refine wp_gop_u ?_ | refine wp_gcall_t ?_ | refine wp_gcall_f rfl ?_ | refine wp_gcall_u ?_ | refine wp_ite_t ?_ | refine wp_ite_f ?_ | refine wp_faddr ?_ | refine wp_nilchk ?_ | refine wp_op (o := .mv _) rfl ?_ | refine wp_op (o := .pick _ _ _) rfl ?_ | refine wp_op (o := .extract _ _) rfl ?_)
    exact wp_ret ⟨rfl, rfl, H.grows⟩
  rw [if_neg (by omega)]
  repeat (first | refine wp_gop_t ?_ | refine wp_gop_f rfl ?_ | refine wp_gop_u ?_ | refine wp_gcall_t ?_ | refine wp_gcall_f rfl ?_ | refine wp_gcall_u ?_ | refine wp_ite_t ?_ | refine wp_ite_f ?_ | refine wp_faddr ?_ | refine wp_nilchk ?_ | refine wp_op (o := .mv _) rfl ?_ | refine wp_op (o := .pick _ _ _) rfl ?_ | refine wp_op (o := .extract _ _) rfl ?_)
  refine wp_rem (by omega) ?_
  exact wp_ret ⟨rfl, rfl, H.grows⟩
end Go.Abs
namespace Go.Abs
open Go.Proofs
set_option maxRecDepth 100000
theorem und4 : EM.P.underlying 4 = some .bool := by kernel_rfl
theorem wp_eqbSelf {S : AH} {Q : Post} {k : AV → AC} {b : Bool} (h : wp EM (k (B true)) S Q) : wp EM (.op (.eq 4 false (B b) (B b)) k) S Q := wp_op (e_eqb und4) (by
  cases b <;> exact h)
theorem wp_gchk_t {M : Mach} {S : AH} {Q : Post} {g : Bool} {o : AOp} {v : AV} {k : AC} (h : wp M (.chk o v k) S Q) : wp M (.gchk (B g) g o v k) S Q := by
  obtain ⟨t, vs, S', ⟨n0, h1⟩, h2⟩ := h
  exact ⟨t, vs, S', ⟨n0, fun n hn => by
    show runGchk M.P (B g) g o v _ S = _
    unfold runGchk
    rw [show gIs (B g) g = some true by cases g <;> rfl]
    exact h1 n hn⟩, h2⟩
def ksT : List (Option IntKind) := [some .i64, some .i64, some .i64, some .i64]
theorem flatT28 : flatT EM.P 10 28 = some ksT := by kernel_rfl
theorem strT : isStructB EM.P 28 = true := by kernel_rfl
theorem grdT : EM.P.eqGuardType EM.P.depth 28 = false := by kernel_rfl
def Tk.vs (x : Tk) : List Value := [.int .i64 x.kind, .int .i64 x.prio, .int .i64 x.every, .int .i64 x.first]
theorem tks_scs (l : List Tk) : tks l = (l.map Tk.vs).map scs := by
  unfold tks
  rw [List.map_map]
  rfl
theorem awake_ok {S : AH} {Q : Post} {k : AV → AC} (h : wp EM (k (B true)) S Q) : wp EM (.call (.fn (.func 10) [] []) [] k) S Q := wp_call (wpC_kn (v := B true) rfl h)
theorem known_ok {S : AH} {Q : Post} {k : AV → AC} (h : wp EM (k (B true)) S Q) : wp EM (.call (.fn (.func 6) [] []) [] k) S Q := wp_call (wpC_kn (v := B true) rfl h)
theorem copyT_ok {S : AH} {v : AV} {l : List Tk} (hv : RoSl S v 4 (tks l)) (hl : l.length ≤ 100000) : wpC EM (.fn (.func 11) [] []) [v] S fun r S' => Cx S [] S' [.sl r 4 (tks l)] [] :=
  copy_ok (es := 4) (bytes := 32) (z := [I 0, I 0, I 0, I 0]) rfl rfl rfl hv (fun x hx => by obtain ⟨y, _, rfl⟩ := List.mem_map.1 hx; rfl) (by rw [tks_len]; unfold maxBytes; omega) (by rw [tks_len]; unfold maxLenN; omega)
theorem sameT_ok {S : AH} {v v' : AV} {l : List Tk} (hv : RoSl S v 4 (tks l)) (hv' : RoSl S v' 4 (tks l)) (hl : l.length ≤ 100000) : wpC EM (.fn (.func 16) [] []) [v, v'] S fun r S' => r = B true ∧ Grows S S' := by
  rw [tks_scs] at hv hv'
  exact sameS_ok (t := 28) (d := 10) (ks := ksT) rfl rfl hv hv' (by rw [List.length_map]; omega) rfl rfl flatT28 (by omega) strT grdT (fun vs hvs => by obtain ⟨x, _, rfl⟩ := List.mem_map.1 hvs; rfl)
theorem sameN_ok {S : AH} {v v' : AV} {l : List Int} (hv : RoSl S v 1 (ints l)) (hv' : RoSl S v' 1 (ints l)) (hl : l.length ≤ 100000) : wpC EM (.fn (.func 24) [] []) [v, v'] S fun r S' => r = B true ∧ Grows S S' := sameI_ok rfl rfl hv hv' (by omega)
theorem overI_ok {S : AH} {v : AV} {L : List (List AV)} (h : slW S v 1 L) (hid : ∀ id ∈ vids v, id < S.next) (hl : L.length ≤ 100000) : wpC EM (.fn (.func 26) [] []) [v] S fun _ S' => Turned S v 1 L.length S' :=
  over_ok (mk := fun k => k (I (-77))) (y := I (-77)) rfl rfl (fun h => h) rfl rfl h hid (by omega)

theorem taskCheck_ok {S : AH} {v : AV} {l : List Tk} (hv : RoSl S v 4 (tks l)) : wpC EM (.fn (.func 3) [] []) [v] S fun r _ => r = B true := by
  refine wpC_fn (b := Try.a3) rfl rfl ?_
  have H := Cx.ro1 hv
  unfold Try.a3
  refine wp_len H (by repeat (first | exact List.Mem.head _ | apply List.Mem.tail)) ?_
  rw [tks_len]
  refine wp_gtr (fun hlt => ?_) (fun hge => ?_)
  · repeat (first | refine wp_gop_t ?_ | refine wp_gop_f rfl ?_ | refine wp_gop_u ?_ | refine wp_gcall_t ?_ | refine wp_gcall_f rfl ?_ | refine wp_gcall_u ?_ | refine wp_ite_t ?_ | refine wp_ite_f ?_ | refine wp_faddr ?_ | refine wp_nilchk ?_ | refine wp_op (o := .mv _) rfl ?_ | refine wp_op (o := .pick _ _ _) rfl ?_ | refine wp_op (o := .extract _ _) rfl ?_)
    exact awake_ok (wp_ret ⟨rfl, rfl⟩)
  have hl : l.length ≤ 40 := by omega
  repeat (first | refine wp_gop_t ?_ | refine wp_gop_f rfl ?_ | refine wp_gop_u ?_ | refine wp_gcall_t ?_ | refine wp_gcall_f rfl ?_ | refine wp_gcall_u ?_ | refine wp_ite_t ?_ | refine wp_ite_f ?_ | refine wp_faddr ?_ | refine wp_nilchk ?_ | refine wp_op (o := .mv _) rfl ?_ | refine wp_op (o := .pick _ _ _) rfl ?_ | refine wp_op (o := .extract _ _) rfl ?_)
  refine wp_callN H (copyT_ok (H.roSl (by repeat (first | exact List.Mem.head _ | apply List.Mem.tail))) (by omega)) fun c S1 H => ?_
  replace H : Cx S [] S1 [] [.sl c 4 (tks l), .sl v 4 (tks l)] := H.toRo (i := 0) rfl
  refine wp_bind (wp_loop (wpL_for l.length (fun i vs S1 => ∃ u : AV, vs = [I (i : Int), u] ∧ Cx S [] S1 [] [.sl c 4 (tks l), .sl v 4 (tks l)]) ?_ ?_ ⟨_, rfl, H⟩))
  · rintro i vs S2 hlt ⟨u, rfl, H⟩
    refine wp_len (v := v) (es := 4) (L := tks l) H (by repeat (first | exact List.Mem.head _ | apply List.Mem.tail)) ?_
    rw [tks_len]
    refine wp_lss_t (by omega) ?_
    repeat (first | refine wp_gop_t ?_ | refine wp_gop_f rfl ?_ | refine wp_gop_u ?_ | refine wp_gcall_t ?_ | refine wp_gcall_f rfl ?_ | refine wp_gcall_u ?_ | refine wp_ite_t ?_ | refine wp_ite_f ?_ | refine wp_faddr ?_ | refine wp_nilchk ?_ | refine wp_op (o := .mv _) rfl ?_ | refine wp_op (o := .pick _ _ _) rfl ?_ | refine wp_op (o := .extract _ _) rfl ?_)
    refine wp_bind ?_
    refine wp_saddr (v := c) (L := tks l) (i := i) H (by repeat (first | exact List.Mem.head _ | apply List.Mem.tail)) (tks_get hlt) fun p off H => ?_
    refine wp_loada H (cs := l[i].cs) (by repeat (first | exact List.Mem.head _ | apply List.Mem.tail)) (Nat.le_of_ble_eq_true rfl) ?_
    refine wp_saddr (v := v) (L := tks l) (i := i) H (by repeat (first | exact List.Mem.head _ | apply List.Mem.tail)) (tks_get hlt) fun q qo H => ?_
    refine wp_loada (id := q) (off := qo) H (cs := l[i].cs) (by repeat (first | exact List.Mem.head _ | apply List.Mem.tail)) (Nat.le_of_ble_eq_true rfl) ?_
    refine wp_callV H (one_ok (x := l[i])) fun S3 H => ?_
    refine wp_chkn (j := 0) (cs := l[i].cs) H (by repeat (first | exact List.Mem.head _ | apply List.Mem.tail)) (Nat.le_of_ble_eq_true rfl) rfl tk_beq ?_
    refine wp_callV H (refOne_ok (x := l[i])) fun S4 H => ?_
    refine wp_neq_f rfl ?_
    repeat (first | refine wp_gop_t ?_ | refine wp_gop_f rfl ?_ | refine wp_gop_u ?_ | refine wp_gcall_t ?_ | refine wp_gcall_f rfl ?_ | refine wp_gcall_u ?_ | refine wp_ite_t ?_ | refine wp_ite_f ?_ | refine wp_faddr ?_ | refine wp_nilchk ?_ | refine wp_op (o := .mv _) rfl ?_ | refine wp_op (o := .pick _ _ _) rfl ?_ | refine wp_op (o := .extract _ _) rfl ?_)
    refine wp_ret ?_
    show wp EM _ _ _
    exact wp_add64 (by omega) (by omega) (wp_ret (.inl ⟨rfl, _, rfl, H.tl.tl⟩))
  · rintro vs S2 ⟨u, rfl, H⟩
    refine wp_len (v := v) (es := 4) (L := tks l) H (by repeat (first | exact List.Mem.head _ | apply List.Mem.tail)) ?_
    rw [tks_len]
    refine wp_lss_f (by omega) ?_
    repeat (first | refine wp_gop_t ?_ | refine wp_gop_f rfl ?_ | refine wp_gop_u ?_ | refine wp_gcall_t ?_ | refine wp_gcall_f rfl ?_ | refine wp_gcall_u ?_ | refine wp_ite_t ?_ | refine wp_ite_f ?_ | refine wp_faddr ?_ | refine wp_nilchk ?_ | refine wp_op (o := .mv _) rfl ?_ | refine wp_op (o := .pick _ _ _) rfl ?_ | refine wp_op (o := .extract _ _) rfl ?_)
    refine wp_ret ⟨by simp, ?_⟩
    show wp EM _ _ _
    refine wp_callV H (check_ok (v := c) (l := l) (H.roSl (by repeat (first | exact List.Mem.head _ | apply List.Mem.tail)))) fun S3 H => ?_
    refine wp_callV H (refCheck_ok (v := v) (l := l) (H.roSl (by repeat (first | exact List.Mem.head _ | apply List.Mem.tail)))) fun S4 H => ?_
    refine wp_eql_t rfl ?_
    repeat (first | refine wp_gop_t ?_ | refine wp_gop_f rfl ?_ | refine wp_gop_u ?_ | refine wp_gcall_t ?_ | refine wp_gcall_f rfl ?_ | refine wp_gcall_u ?_ | refine wp_ite_t ?_ | refine wp_ite_f ?_ | refine wp_faddr ?_ | refine wp_nilchk ?_ | refine wp_op (o := .mv _) rfl ?_ | refine wp_op (o := .pick _ _ _) rfl ?_ | refine wp_op (o := .extract _ _) rfl ?_)
    refine wp_callV H (sameT_ok (v := c) (v' := v) (l := l) (H.roSl (by repeat (first | exact List.Mem.head _ | apply List.Mem.tail))) (H.roSl (by repeat (first | exact List.Mem.head _ | apply List.Mem.tail))) (by omega)) fun S5 H => ?_
    repeat (first | refine wp_gop_t ?_ | refine wp_gop_f rfl ?_ | refine wp_gop_u ?_ | refine wp_gcall_t ?_ | refine wp_gcall_f rfl ?_ | refine wp_gcall_u ?_ | refine wp_ite_t ?_ | refine wp_ite_f ?_ | refine wp_faddr ?_ | refine wp_nilchk ?_ | refine wp_op (o := .mv _) rfl ?_ | refine wp_op (o := .pick _ _ _) rfl ?_ | refine wp_op (o := .extract _ _) rfl ?_)
    refine awake_ok ?_
    repeat (first | refine wp_gop_t ?_ | refine wp_gop_f rfl ?_ | refine wp_gop_u ?_ | refine wp_gcall_t ?_ | refine wp_gcall_f rfl ?_ | refine wp_gcall_u ?_ | refine wp_ite_t ?_ | refine wp_ite_f ?_ | refine wp_faddr ?_ | refine wp_nilchk ?_ | refine wp_op (o := .mv _) rfl ?_ | refine wp_op (o := .pick _ _ _) rfl ?_ | refine wp_op (o := .extract _ _) rfl ?_)
    exact wp_ret ⟨rfl, rfl⟩
theorem tnext_form (x : Tk) (n : Int) : ∃ t b, tnext x n = .tup [I t, B b] := by unfold tnext; split <;> exact ⟨_, _, rfl⟩
theorem tat_form (x : Tk) (n : Int) : ∃ t b, tat x n = .tup [I t, B b] := by unfold tat; split <;> exact ⟨_, _, rfl⟩
theorem taskTimes_ok {S : AH} {x : Tk} {a b most n : Int} : wpC EM (.fn (.func 4) [] []) [.agg x.cs, I a, I b, I most, I n] S fun r _ => r = B true := by
  refine wpC_fn (b := Try.a4) rfl rfl ?_
  have H : Cx S [] S [] [] := Cx.enter (by simp)
  unfold Try.a4
  refine wp_box H rfl fun b1 S1 H => ?_
  replace H : Cx S [] S1 [] [.pt b1 0 x.cs] := H
  obtain ⟨t1, c1, e1⟩ := tnext_form x a
  obtain ⟨t2, c2, e2⟩ := tat_form x n
  have hlen := ctimes_len x a b most
  refine wp_loada H (cs := x.cs) (by repeat (first | exact List.Mem.head _ | apply List.Mem.tail)) (Nat.le_of_ble_eq_true rfl) ?_
  refine wp_callV H next_ok fun S2 H => ?_
  rw [e1]
  repeat (first | refine wp_gop_t ?_ | refine wp_gop_f rfl ?_ | refine wp_gop_u ?_ | refine wp_gcall_t ?_ | refine wp_gcall_f rfl ?_ | refine wp_gcall_u ?_ | refine wp_ite_t ?_ | refine wp_ite_f ?_ | refine wp_faddr ?_ | refine wp_nilchk ?_ | refine wp_op (o := .mv _) rfl ?_ | refine wp_op (o := .pick _ _ _) rfl ?_ | refine wp_op (o := .extract _ _) rfl ?_)
  refine wp_loada H (cs := x.cs) (by repeat (first | exact List.Mem.head _ | apply List.Mem.tail)) (Nat.le_of_ble_eq_true rfl) ?_
  refine wp_callV H refNext_ok fun S3 H => ?_
  rw [e1]
  repeat (first | refine wp_gop_t ?_ | refine wp_gop_f rfl ?_ | refine wp_gop_u ?_ | refine wp_gcall_t ?_ | refine wp_gcall_f rfl ?_ | refine wp_gcall_u ?_ | refine wp_ite_t ?_ | refine wp_ite_f ?_ | refine wp_faddr ?_ | refine wp_nilchk ?_ | refine wp_op (o := .mv _) rfl ?_ | refine wp_op (o := .pick _ _ _) rfl ?_ | refine wp_op (o := .extract _ _) rfl ?_)
  refine wp_loada H (cs := x.cs) (by repeat (first | exact List.Mem.head _ | apply List.Mem.tail)) (Nat.le_of_ble_eq_true rfl) ?_
  refine wp_callV H at_ok fun S4 H => ?_
  rw [e2]
  repeat (first | refine wp_gop_t ?_ | refine wp_gop_f rfl ?_ | refine wp_gop_u ?_ | refine wp_gcall_t ?_ | refine wp_gcall_f rfl ?_ | refine wp_gcall_u ?_ | refine wp_ite_t ?_ | refine wp_ite_f ?_ | refine wp_faddr ?_ | refine wp_nilchk ?_ | refine wp_op (o := .mv _) rfl ?_ | refine wp_op (o := .pick _ _ _) rfl ?_ | refine wp_op (o := .extract _ _) rfl ?_)
  refine wp_loada H (cs := x.cs) (by repeat (first | exact List.Mem.head _ | apply List.Mem.tail)) (Nat.le_of_ble_eq_true rfl) ?_
  refine wp_callV H refAt_ok fun S5 H => ?_
  rw [e2]
  repeat (first | refine wp_gop_t ?_ | refine wp_gop_f rfl ?_ | refine wp_gop_u ?_ | refine wp_gcall_t ?_ | refine wp_gcall_f rfl ?_ | refine wp_gcall_u ?_ | refine wp_ite_t ?_ | refine wp_ite_f ?_ | refine wp_faddr ?_ | refine wp_nilchk ?_ | refine wp_op (o := .mv _) rfl ?_ | refine wp_op (o := .pick _ _ _) rfl ?_ | refine wp_op (o := .extract _ _) rfl ?_)
  refine wp_loada H (cs := x.cs) (by repeat (first | exact List.Mem.head _ | apply List.Mem.tail)) (Nat.le_of_ble_eq_true rfl) ?_
  refine wp_callN H times_ok fun w S6 H => ?_
  refine wp_eql_t rfl ?_
  repeat (first | refine wp_gop_t ?_ | refine wp_gop_f rfl ?_ | refine wp_gop_u ?_ | refine wp_gcall_t ?_ | refine wp_gcall_f rfl ?_ | refine wp_gcall_u ?_ | refine wp_ite_t ?_ | refine wp_ite_f ?_ | refine wp_faddr ?_ | refine wp_nilchk ?_ | refine wp_op (o := .mv _) rfl ?_ | refine wp_op (o := .pick _ _ _) rfl ?_ | refine wp_op (o := .extract _ _) rfl ?_)
  refine wp_eqbSelf ?_
  repeat (first | refine wp_gop_t ?_ | refine wp_gop_f rfl ?_ | refine wp_gop_u ?_ | refine wp_gcall_t ?_ | refine wp_gcall_f rfl ?_ | refine wp_gcall_u ?_ | refine wp_ite_t ?_ | refine wp_ite_f ?_ | refine wp_faddr ?_ | refine wp_nilchk ?_ | refine wp_op (o := .mv _) rfl ?_ | refine wp_op (o := .pick _ _ _) rfl ?_ | refine wp_op (o := .extract _ _) rfl ?_)
  refine wp_eql_t rfl ?_
  repeat (first | refine wp_gop_t ?_ | refine wp_gop_f rfl ?_ | refine wp_gop_u ?_ | refine wp_gcall_t ?_ | refine wp_gcall_f rfl ?_ | refine wp_gcall_u ?_ | refine wp_ite_t ?_ | refine wp_ite_f ?_ | refine wp_faddr ?_ | refine wp_nilchk ?_ | refine wp_op (o := .mv _) rfl ?_ | refine wp_op (o := .pick _ _ _) rfl ?_ | refine wp_op (o := .extract _ _) rfl ?_)
  refine wp_eqbSelf ?_
  repeat (first | refine wp_gop_t ?_ | refine wp_gop_f rfl ?_ | refine wp_gop_u ?_ | refine wp_gcall_t ?_ | refine wp_gcall_f rfl ?_ | refine wp_gcall_u ?_ | refine wp_ite_t ?_ | refine wp_ite_f ?_ | refine wp_faddr ?_ | refine wp_nilchk ?_ | refine wp_op (o := .mv _) rfl ?_ | refine wp_op (o := .pick _ _ _) rfl ?_ | refine wp_op (o := .extract _ _) rfl ?_)
  refine wp_loada H (cs := x.cs) (by repeat (first | exact List.Mem.head _ | apply List.Mem.tail)) (Nat.le_of_ble_eq_true rfl) ?_
  repeat (first | refine wp_gop_t ?_ | refine wp_gop_f rfl ?_ | refine wp_gop_u ?_ | refine wp_gcall_t ?_ | refine wp_gcall_f rfl ?_ | refine wp_gcall_u ?_ | refine wp_ite_t ?_ | refine wp_ite_f ?_ | refine wp_faddr ?_ | refine wp_nilchk ?_ | refine wp_op (o := .mv _) rfl ?_ | refine wp_op (o := .pick _ _ _) rfl ?_ | refine wp_op (o := .extract _ _) rfl ?_)
  refine wp_loada H (cs := x.cs) (by repeat (first | exact List.Mem.head _ | apply List.Mem.tail)) (Nat.le_of_ble_eq_true rfl) ?_
  repeat (first | refine wp_gop_t ?_ | refine wp_gop_f rfl ?_ | refine wp_gop_u ?_ | refine wp_gcall_t ?_ | refine wp_gcall_f rfl ?_ | refine wp_gcall_u ?_ | refine wp_ite_t ?_ | refine wp_ite_f ?_ | refine wp_faddr ?_ | refine wp_nilchk ?_ | refine wp_op (o := .mv _) rfl ?_ | refine wp_op (o := .pick _ _ _) rfl ?_ | refine wp_op (o := .extract _ _) rfl ?_)
  refine wp_callV H count_ok fun S7 H => ?_
  refine wp_gchk_t (wp_chkn (j := 0) (cs := x.cs) H (by repeat (first | exact List.Mem.head _ | apply List.Mem.tail)) (Nat.le_of_ble_eq_true rfl) rfl tk_beq ?_)
  repeat (first | refine wp_gop_t ?_ | refine wp_gop_f rfl ?_ | refine wp_gop_u ?_ | refine wp_gcall_t ?_ | refine wp_gcall_f rfl ?_ | refine wp_gcall_u ?_ | refine wp_ite_t ?_ | refine wp_ite_f ?_ | refine wp_faddr ?_ | refine wp_nilchk ?_ | refine wp_op (o := .mv _) rfl ?_ | refine wp_op (o := .pick _ _ _) rfl ?_ | refine wp_op (o := .extract _ _) rfl ?_)
  refine wp_callV H refCount_ok fun S8 H => ?_
  repeat (first | refine wp_gop_t ?_ | refine wp_gop_f rfl ?_ | refine wp_gop_u ?_ | refine wp_gcall_t ?_ | refine wp_gcall_f rfl ?_ | refine wp_gcall_u ?_ | refine wp_ite_t ?_ | refine wp_ite_f ?_ | refine wp_faddr ?_ | refine wp_nilchk ?_ | refine wp_op (o := .mv _) rfl ?_ | refine wp_op (o := .pick _ _ _) rfl ?_ | refine wp_op (o := .extract _ _) rfl ?_)
  refine wp_eql_t rfl ?_
  repeat (first | refine wp_gop_t ?_ | refine wp_gop_f rfl ?_ | refine wp_gop_u ?_ | refine wp_gcall_t ?_ | refine wp_gcall_f rfl ?_ | refine wp_gcall_u ?_ | refine wp_ite_t ?_ | refine wp_ite_f ?_ | refine wp_faddr ?_ | refine wp_nilchk ?_ | refine wp_op (o := .mv _) rfl ?_ | refine wp_op (o := .pick _ _ _) rfl ?_ | refine wp_op (o := .extract _ _) rfl ?_)
  refine wp_loada H (cs := x.cs) (by repeat (first | exact List.Mem.head _ | apply List.Mem.tail)) (Nat.le_of_ble_eq_true rfl) ?_
  repeat (first | refine wp_gop_t ?_ | refine wp_gop_f rfl ?_ | refine wp_gop_u ?_ | refine wp_gcall_t ?_ | refine wp_gcall_f rfl ?_ | refine wp_gcall_u ?_ | refine wp_ite_t ?_ | refine wp_ite_f ?_ | refine wp_faddr ?_ | refine wp_nilchk ?_ | refine wp_op (o := .mv _) rfl ?_ | refine wp_op (o := .pick _ _ _) rfl ?_ | refine wp_op (o := .extract _ _) rfl ?_)
  refine wp_callN H refTimes_ok fun w2 S9 H => ?_
  repeat (first | refine wp_gop_t ?_ | refine wp_gop_f rfl ?_ | refine wp_gop_u ?_ | refine wp_gcall_t ?_ | refine wp_gcall_f rfl ?_ | refine wp_gcall_u ?_ | refine wp_ite_t ?_ | refine wp_ite_f ?_ | refine wp_faddr ?_ | refine wp_nilchk ?_ | refine wp_op (o := .mv _) rfl ?_ | refine wp_op (o := .pick _ _ _) rfl ?_ | refine wp_op (o := .extract _ _) rfl ?_)
  refine wp_callV H (sameN_ok (l := ctimes x a b most) (H.ownSl (n := 1) rfl) (H.ownSl (n := 0) rfl) (by omega)) fun S10 H => ?_
  repeat (first | refine wp_gop_t ?_ | refine wp_gop_f rfl ?_ | refine wp_gop_u ?_ | refine wp_gcall_t ?_ | refine wp_gcall_f rfl ?_ | refine wp_gcall_u ?_ | refine wp_ite_t ?_ | refine wp_ite_f ?_ | refine wp_faddr ?_ | refine wp_nilchk ?_ | refine wp_op (o := .mv _) rfl ?_ | refine wp_op (o := .pick _ _ _) rfl ?_ | refine wp_op (o := .extract _ _) rfl ?_)
  refine wp_callT H 1 rfl (overI_ok (L := ints (ctimes x a b most)) (H.oh (.sl w 1 (ints (ctimes x a b most))) (by simp)) (H.ownSl (n := 1) rfl).2 (by rw [ints_len]; omega)) fun _ S11 L1 H => ?_
  repeat (first | refine wp_gop_t ?_ | refine wp_gop_f rfl ?_ | refine wp_gop_u ?_ | refine wp_gcall_t ?_ | refine wp_gcall_f rfl ?_ | refine wp_gcall_u ?_ | refine wp_ite_t ?_ | refine wp_ite_f ?_ | refine wp_faddr ?_ | refine wp_nilchk ?_ | refine wp_op (o := .mv _) rfl ?_ | refine wp_op (o := .pick _ _ _) rfl ?_ | refine wp_op (o := .extract _ _) rfl ?_)
  refine wp_loada H (cs := x.cs) (by repeat (first | exact List.Mem.head _ | apply List.Mem.tail)) (Nat.le_of_ble_eq_true rfl) ?_
  repeat (first | refine wp_gop_t ?_ | refine wp_gop_f rfl ?_ | refine wp_gop_u ?_ | refine wp_gcall_t ?_ | refine wp_gcall_f rfl ?_ | refine wp_gcall_u ?_ | refine wp_ite_t ?_ | refine wp_ite_f ?_ | refine wp_faddr ?_ | refine wp_nilchk ?_ | refine wp_op (o := .mv _) rfl ?_ | refine wp_op (o := .pick _ _ _) rfl ?_ | refine wp_op (o := .extract _ _) rfl ?_)
  refine wp_loada H (cs := x.cs) (by repeat (first | exact List.Mem.head _ | apply List.Mem.tail)) (Nat.le_of_ble_eq_true rfl) ?_
  repeat (first | refine wp_gop_t ?_ | refine wp_gop_f rfl ?_ | refine wp_gop_u ?_ | refine wp_gcall_t ?_ | refine wp_gcall_f rfl ?_ | refine wp_gcall_u ?_ | refine wp_ite_t ?_ | refine wp_ite_f ?_ | refine wp_faddr ?_ | refine wp_nilchk ?_ | refine wp_op (o := .mv _) rfl ?_ | refine wp_op (o := .pick _ _ _) rfl ?_ | refine wp_op (o := .extract _ _) rfl ?_)
  refine wp_callN H times_ok fun w3 S12 H => ?_
  refine wp_gchk_t (wp_chkn (j := 0) (cs := x.cs) H (by repeat (first | exact List.Mem.head _ | apply List.Mem.tail)) (Nat.le_of_ble_eq_true rfl) rfl tk_beq ?_)
  repeat (first | refine wp_gop_t ?_ | refine wp_gop_f rfl ?_ | refine wp_gop_u ?_ | refine wp_gcall_t ?_ | refine wp_gcall_f rfl ?_ | refine wp_gcall_u ?_ | refine wp_ite_t ?_ | refine wp_ite_f ?_ | refine wp_faddr ?_ | refine wp_nilchk ?_ | refine wp_op (o := .mv _) rfl ?_ | refine wp_op (o := .pick _ _ _) rfl ?_ | refine wp_op (o := .extract _ _) rfl ?_)
  refine wp_callN H refTimes_ok fun w4 S13 H => ?_
  repeat (first | refine wp_gop_t ?_ | refine wp_gop_f rfl ?_ | refine wp_gop_u ?_ | refine wp_gcall_t ?_ | refine wp_gcall_f rfl ?_ | refine wp_gcall_u ?_ | refine wp_ite_t ?_ | refine wp_ite_f ?_ | refine wp_faddr ?_ | refine wp_nilchk ?_ | refine wp_op (o := .mv _) rfl ?_ | refine wp_op (o := .pick _ _ _) rfl ?_ | refine wp_op (o := .extract _ _) rfl ?_)
  refine wp_callV H (sameN_ok (l := ctimes x a b most) (H.ownSl (n := 1) rfl) (H.ownSl (n := 0) rfl) (by omega)) fun S14 H => ?_
  repeat (first | refine wp_gop_t ?_ | refine wp_gop_f rfl ?_ | refine wp_gop_u ?_ | refine wp_gcall_t ?_ | refine wp_gcall_f rfl ?_ | refine wp_gcall_u ?_ | refine wp_ite_t ?_ | refine wp_ite_f ?_ | refine wp_faddr ?_ | refine wp_nilchk ?_ | refine wp_op (o := .mv _) rfl ?_ | refine wp_op (o := .pick _ _ _) rfl ?_ | refine wp_op (o := .extract _ _) rfl ?_)
  refine awake_ok ?_
  repeat (first | refine wp_gop_t ?_ | refine wp_gop_f rfl ?_ | refine wp_gop_u ?_ | refine wp_gcall_t ?_ | refine wp_gcall_f rfl ?_ | refine wp_gcall_u ?_ | refine wp_ite_t ?_ | refine wp_ite_f ?_ | refine wp_faddr ?_ | refine wp_nilchk ?_ | refine wp_op (o := .mv _) rfl ?_ | refine wp_op (o := .pick _ _ _) rfl ?_ | refine wp_op (o := .extract _ _) rfl ?_)
  exact wp_ret ⟨rfl, rfl⟩
end Go.Abs
