/- functions of this cut: what they compute, in the abstract machine. Conditions: stated in each theorem -/
import Derived.Test.YtmbabkepakhkiaaT
set_option linter.unusedVariables false
set_option linter.unusedSimpArgs false
namespace Go.Abs
open Go.Proofs
set_option maxRecDepth 100000
noncomputable def EM : Mach := ⟨Try.prog, Try.tbl, knOf [(14, .bool true), (6, .bool true)]⟩


structure Evt where
  id : Int
  ans : Bool
  a1 : Int
  a2 : Int
  a3 : Int
  a4 : Int
  b1 : Int
  b2 : Int
  b3 : Int
def Evt.cs (x : Evt) : List AV := [I x.id, B x.ans, I x.a1, I x.a2, I x.a3, U x.a4, I x.b1, I x.b2, U x.b3]
def evs (h : List Evt) : List (List AV) := h.map Evt.cs
theorem evs_len (h : List Evt) : (evs h).length = h.length := List.length_map ..
theorem evs_get {h : List Evt} {i : Nat} (hi : i < h.length) : (evs h)[i]? = some (h[i].cs) := by simp [evs, hi]
theorem und4 : EM.P.underlying 4 = some .bool := by kernel_rfl

/-- where the call, or the answer, of an ID stands -/
def atIx (h : List Evt) (id : Int) (ans : Bool) : Int := match h.findIdx? (fun y => y.id == id && y.ans == ans) with
  | some i => (i : Int)
  | none => -1
theorem atIx_some {h : List Evt} {id : Int} {ans : Bool} {i : Nat} (hi : i < h.length) (h1 : h[i].id = id) (h2 : h[i].ans = ans) (hpre : ∀ x ∈ h.take i, ¬ (x.id = id ∧ x.ans = ans)) : atIx h id ans = (i : Int) := by
  have : h.findIdx? (fun y => y.id == id && y.ans == ans) = some i := by
    rw [List.findIdx?_eq_some_iff_getElem]
    refine ⟨hi, by simp [h1, h2], fun j hj => ?_⟩
    have := hpre h[j] (List.mem_iff_getElem.2 ⟨j, by simp; omega, by simp⟩)
    simp only [Bool.and_eq_true, beq_iff_eq, Bool.not_eq_true, ← Bool.not_eq_true]
    exact this
  unfold atIx
  rw [this]
theorem atIx_none {h : List Evt} {id : Int} {ans : Bool} (hpre : ∀ x ∈ h, ¬ (x.id = id ∧ x.ans = ans)) : atIx h id ans = -1 := by
  have : h.findIdx? (fun y => y.id == id && y.ans == ans) = none := by
    rw [List.findIdx?_eq_none_iff]
    intro x hx
    have := hpre x hx
    simp only [Bool.and_eq_false_iff, beq_eq_false_iff_ne, ne_eq]
    by_cases e : x.id = id
    · exact .inr fun e2 => this ⟨e, e2⟩
    · exact .inl e
  unfold atIx
  rw [this]

theorem at_ok {S : AH} {v : AV} {h : List Evt} {id : Int} {ans : Bool} (hv : RoSl S v 9 (evs h)) (hl : h.length < 4611686018427387904) : wpC EM (.fn (.func 34) [] []) [v, I id, B ans] S fun r S' => r = I (atIx h id ans) ∧ Grows S S' := by
  refine wpC_fn (b := Try.a34) rfl rfl ?_
  have H := Cx.ro1 hv
  unfold Try.a34
  refine wp_bind (wp_loop (wpL_inv (fun m vs S1 => ∃ (i : Nat) (u : AV), vs = [I (i : Int), u] ∧ i ≤ h.length ∧ m = h.length - i ∧ (∀ x ∈ h.take i, ¬ (x.id = id ∧ x.ans = ans)) ∧ Cx S [] S1 [] [.sl v 9 (evs h)]) ?_ h.length ⟨0, _, rfl, by omega, by omega, by simp, H⟩))
  rintro m vs S1 ⟨i, u, rfl, hi, rfl, hpre, H⟩
  refine wp_len H (by repeat (first | exact List.Mem.head _ | apply List.Mem.tail)) ?_
  rw [evs_len]
  refine wp_lss (fun hlt => ?_) (fun hge => ?_)
  · have hlt : i < h.length := by omega
    repeat (first | refine wp_gop_t ?_ | refine wp_gop_f rfl ?_ | refine wp_gop_u ?_ | refine wp_gcall_t ?_ | refine wp_gcall_f rfl ?_ | refine wp_gcall_u ?_ | refine wp_ite_t ?_ | refine wp_ite_f ?_ | refine wp_faddr ?_ | refine wp_nilchk ?_ | refine wp_op (o := .mv _) rfl ?_ | refine wp_op (o := .pick _ _ _) rfl ?_ | refine wp_op (o := .extract _ _) rfl ?_)
    refine wp_bind ?_
    have next : ¬ (h[i].id = id ∧ h[i].ans = ans) → ∀ S2 u, Cx S [] S2 [] [.sl v 9 (evs h)] → wp EM (.op (.bin .add (I (i : Int)) (I 1)) fun v5 => .ret .normal [v5, u]) S2 (fun t vs1 S1 => (t = .normal ∧ ∃ m', m' < h.length - i ∧ ∃ (i : Nat) (u : AV), vs1 = [I (i : Int), u] ∧ i ≤ h.length ∧ m' = h.length - i ∧ (∀ x ∈ h.take i, ¬ (x.id = id ∧ x.ans = ans)) ∧ Cx S [] S1 [] [.sl v 9 (evs h)]) ∨ (t ≠ .normal ∧ boundTo EM (some 0) (fun v1 => .ret .ret [I (-1)]) (fun v1 => [nth v1 1]) (fun t vs S' => t = .ret ∧ oneOf vs = I (atIx h id ans) ∧ Grows S S') t [nth vs1 0, nth vs1 1] S1)) := by
      intro hne S2 u H2
      refine wp_add64 (by omega) (by omega) (wp_ret (.inl ⟨rfl, h.length - (i + 1), by omega, i + 1, _, rfl, by omega, rfl, fun x hx => ?_, H2⟩))
      rw [List.take_succ_eq_append_getElem hlt, List.mem_append, List.mem_singleton] at hx
      rcases hx with hx | rfl
      · exact hpre x hx
      · exact hne
    refine wp_saddr (i := i) H (by repeat (first | exact List.Mem.head _ | apply List.Mem.tail)) (evs_get hlt) fun p off H1 => ?_
    repeat (first | refine wp_gop_t ?_ | refine wp_gop_f rfl ?_ | refine wp_gop_u ?_ | refine wp_gcall_t ?_ | refine wp_gcall_f rfl ?_ | refine wp_gcall_u ?_ | refine wp_ite_t ?_ | refine wp_ite_f ?_ | refine wp_faddr ?_ | refine wp_nilchk ?_ | refine wp_op (o := .mv _) rfl ?_ | refine wp_op (o := .pick _ _ _) rfl ?_ | refine wp_op (o := .extract _ _) rfl ?_)
    refine wp_load1 H1 (by repeat (first | exact List.Mem.head _ | apply List.Mem.tail)) rfl ?_
    refine wp_eql (fun he => ?_) (fun hne => ?_)
    · repeat (first | refine wp_gop_t ?_ | refine wp_gop_f rfl ?_ | refine wp_gop_u ?_ | refine wp_gcall_t ?_ | refine wp_gcall_f rfl ?_ | refine wp_gcall_u ?_ | refine wp_ite_t ?_ | refine wp_ite_f ?_ | refine wp_faddr ?_ | refine wp_nilchk ?_ | refine wp_op (o := .mv _) rfl ?_ | refine wp_op (o := .pick _ _ _) rfl ?_ | refine wp_op (o := .extract _ _) rfl ?_)
      refine wp_saddr (i := i) H1 (by repeat (first | exact List.Mem.head _ | apply List.Mem.tail)) (evs_get hlt) fun p off H1 => ?_
      repeat (first | refine wp_gop_t ?_ | refine wp_gop_f rfl ?_ | refine wp_gop_u ?_ | refine wp_gcall_t ?_ | refine wp_gcall_f rfl ?_ | refine wp_gcall_u ?_ | refine wp_ite_t ?_ | refine wp_ite_f ?_ | refine wp_faddr ?_ | refine wp_nilchk ?_ | refine wp_op (o := .mv _) rfl ?_ | refine wp_op (o := .pick _ _ _) rfl ?_ | refine wp_op (o := .extract _ _) rfl ?_)
      refine wp_load1 H1 (by repeat (first | exact List.Mem.head _ | apply List.Mem.tail)) rfl ?_
      repeat (first | refine wp_gop_t ?_ | refine wp_gop_f rfl ?_ | refine wp_gop_u ?_ | refine wp_gcall_t ?_ | refine wp_gcall_f rfl ?_ | refine wp_gcall_u ?_ | refine wp_ite_t ?_ | refine wp_ite_f ?_ | refine wp_faddr ?_ | refine wp_nilchk ?_ | refine wp_op (o := .mv _) rfl ?_ | refine wp_op (o := .pick _ _ _) rfl ?_ | refine wp_op (o := .extract _ _) rfl ?_)
      refine wp_op (e_eqb und4) ?_
      cases hb : (h[i].ans == ans)
      · repeat (first | refine wp_gop_t ?_ | refine wp_gop_f rfl ?_ | refine wp_gop_u ?_ | refine wp_gcall_t ?_ | refine wp_gcall_f rfl ?_ | refine wp_gcall_u ?_ | refine wp_ite_t ?_ | refine wp_ite_f ?_ | refine wp_faddr ?_ | refine wp_nilchk ?_ | refine wp_op (o := .mv _) rfl ?_ | refine wp_op (o := .pick _ _ _) rfl ?_ | refine wp_op (o := .extract _ _) rfl ?_)
        exact wp_ret (next (fun e => by simp [e.2] at hb) _ _ H1.tl.tl)
      · repeat (first | refine wp_gop_t ?_ | refine wp_gop_f rfl ?_ | refine wp_gop_u ?_ | refine wp_gcall_t ?_ | refine wp_gcall_f rfl ?_ | refine wp_gcall_u ?_ | refine wp_ite_t ?_ | refine wp_ite_f ?_ | refine wp_faddr ?_ | refine wp_nilchk ?_ | refine wp_op (o := .mv _) rfl ?_ | refine wp_op (o := .pick _ _ _) rfl ?_ | refine wp_op (o := .extract _ _) rfl ?_)
        refine wp_ret (.inr ⟨by simp, rfl, ?_, H1.grows⟩)
        rw [atIx_some hlt he (by simpa using hb) hpre]; rfl
    · repeat (first | refine wp_gop_t ?_ | refine wp_gop_f rfl ?_ | refine wp_gop_u ?_ | refine wp_gcall_t ?_ | refine wp_gcall_f rfl ?_ | refine wp_gcall_u ?_ | refine wp_ite_t ?_ | refine wp_ite_f ?_ | refine wp_faddr ?_ | refine wp_nilchk ?_ | refine wp_op (o := .mv _) rfl ?_ | refine wp_op (o := .pick _ _ _) rfl ?_ | refine wp_op (o := .extract _ _) rfl ?_)
      exact wp_ret (next (fun e => hne e.1) _ _ H1.tl)
  · repeat (first | refine wp_gop_t ?_ | refine wp_gop_f rfl ?_ | refine wp_gop_u ?_ | refine wp_gcall_t ?_ | refine wp_gcall_f rfl ?_ | refine wp_gcall_u ?_ | refine wp_ite_t ?_ | refine wp_ite_f ?_ | refine wp_faddr ?_ | refine wp_nilchk ?_ | refine wp_op (o := .mv _) rfl ?_ | refine wp_op (o := .pick _ _ _) rfl ?_ | refine wp_op (o := .extract _ _) rfl ?_)
    refine wp_ret (.inr ⟨by simp, wp_ret ⟨rfl, ?_, H.grows⟩⟩)
    rw [List.take_of_length_le (by omega)] at hpre
    rw [atIx_none hpre]; rfl
end Go.Abs
namespace Go.Abs
open Go.Proofs
set_option maxRecDepth 100000
/-! the document's answers -/
def errAt (pre : List Evt) (x : Evt) : Int := if 0 ≤ atIx pre x.id x.ans then 8 else if x.ans = true ∧ atIx pre x.id false < 0 then 10 else 0
/-- what is wrong first from the i-th event on: n of them are left -/
def chkN (h : List Evt) : Nat → Nat → Int
  | 0, _ => 0
  | n + 1, i => match h[i]? with
    | none => 0
    | some x => if errAt (h.take i) x = 0 then chkN h n (i + 1) else errAt (h.take i) x
def chk (h : List Evt) : Int := if 4096 < h.length then 4 else chkN h h.length 0

theorem evs_take (h : List Evt) (i : Nat) : (evs h).take i = evs (h.take i) := by simp [evs, List.map_take]

theorem refCheck_ok {S : AH} {v : AV} {h : List Evt} (hv : RoSl S v 9 (evs h)) : wpC EM (.fn (.func 13) [] []) [v] S fun r S' => r = I (chk h) ∧ Grows S S' := by
  refine wpC_fn (b := Try.a13) rfl rfl ?_
  have H := Cx.ro1 hv
  unfold Try.a13
  refine wp_len H (by repeat (first | exact List.Mem.head _ | apply List.Mem.tail)) ?_
  rw [evs_len]
  unfold chk
  refine wp_gtr (fun hlt => ?_) (fun hge => ?_)
  · repeat (first | refine wp_gop_t ?_ | refine wp_gop_f rfl ?_ | refine wp_gop_u ?_ | refine wp_gcall_t ?_ | refine wp_gcall_f rfl ?_ | refine wp_gcall_u ?_ | refine wp_ite_t ?_ | refine wp_ite_f ?_ | refine wp_faddr ?_ | refine wp_nilchk ?_ | refine wp_op (o := .mv _) rfl ?_ | refine wp_op (o := .pick _ _ _) rfl ?_ | refine wp_op (o := .extract _ _) rfl ?_)
    refine wp_ret ⟨rfl, ?_, H.grows⟩
    rw [if_pos (by omega)]; rfl
  · rw [if_neg (by omega)]
    repeat (first | refine wp_gop_t ?_ | refine wp_gop_f rfl ?_ | refine wp_gop_u ?_ | refine wp_gcall_t ?_ | refine wp_gcall_f rfl ?_ | refine wp_gcall_u ?_ | refine wp_ite_t ?_ | refine wp_ite_f ?_ | refine wp_faddr ?_ | refine wp_nilchk ?_ | refine wp_op (o := .mv _) rfl ?_ | refine wp_op (o := .pick _ _ _) rfl ?_ | refine wp_op (o := .extract _ _) rfl ?_)
    refine wp_bind (wp_loop (wpL_for h.length (fun i vs S1 => ∃ u : AV, vs = [I (i : Int), u] ∧ chkN h (h.length - i) i = chkN h h.length 0 ∧ Cx S [] S1 [] [.sl v 9 (evs h)]) ?_ ?_ ⟨_, rfl, rfl, H⟩))
    · rintro i vs S1 hlt ⟨u, rfl, hc, H⟩
      have hn : h.length - i = (h.length - (i + 1)) + 1 := by omega
      rw [hn, chkN, List.getElem?_eq_getElem hlt] at hc
      simp only at hc
      refine wp_len H (by repeat (first | exact List.Mem.head _ | apply List.Mem.tail)) ?_
      rw [evs_len]
      refine wp_lss_t (by omega) ?_
      repeat (first | refine wp_gop_t ?_ | refine wp_gop_f rfl ?_ | refine wp_gop_u ?_ | refine wp_gcall_t ?_ | refine wp_gcall_f rfl ?_ | refine wp_gcall_u ?_ | refine wp_ite_t ?_ | refine wp_ite_f ?_ | refine wp_faddr ?_ | refine wp_nilchk ?_ | refine wp_op (o := .mv _) rfl ?_ | refine wp_op (o := .pick _ _ _) rfl ?_ | refine wp_op (o := .extract _ _) rfl ?_)
      refine wp_bind ?_
      refine wp_prefix (i := i) H (by repeat (first | exact List.Mem.head _ | apply List.Mem.tail)) (by rw [evs_len]; omega) fun p H => ?_
      rw [evs_take] at H
      refine wp_saddr (i := i) H (by repeat (first | exact List.Mem.head _ | apply List.Mem.tail)) (evs_get hlt) fun q off H => ?_
      repeat (first | refine wp_gop_t ?_ | refine wp_gop_f rfl ?_ | refine wp_gop_u ?_ | refine wp_gcall_t ?_ | refine wp_gcall_f rfl ?_ | refine wp_gcall_u ?_ | refine wp_ite_t ?_ | refine wp_ite_f ?_ | refine wp_faddr ?_ | refine wp_nilchk ?_ | refine wp_op (o := .mv _) rfl ?_ | refine wp_op (o := .pick _ _ _) rfl ?_ | refine wp_op (o := .extract _ _) rfl ?_)
      refine wp_load1 H (by repeat (first | exact List.Mem.head _ | apply List.Mem.tail)) rfl ?_
      refine wp_saddr (i := i) H (by repeat (first | exact List.Mem.head _ | apply List.Mem.tail)) (evs_get hlt) fun q' off' H => ?_
      repeat (first | refine wp_gop_t ?_ | refine wp_gop_f rfl ?_ | refine wp_gop_u ?_ | refine wp_gcall_t ?_ | refine wp_gcall_f rfl ?_ | refine wp_gcall_u ?_ | refine wp_ite_t ?_ | refine wp_ite_f ?_ | refine wp_faddr ?_ | refine wp_nilchk ?_ | refine wp_op (o := .mv _) rfl ?_ | refine wp_op (o := .pick _ _ _) rfl ?_ | refine wp_op (o := .extract _ _) rfl ?_)
      refine wp_load1 H (by repeat (first | exact List.Mem.head _ | apply List.Mem.tail)) rfl ?_
      refine wp_callV H (at_ok (H.roSl (by repeat (first | exact List.Mem.head _ | apply List.Mem.tail))) (by rw [List.length_take]; omega)) fun S2 H => ?_
      refine wp_geq (fun h8 => ?_) (fun h8 => ?_)
      · repeat (first | refine wp_gop_t ?_ | refine wp_gop_f rfl ?_ | refine wp_gop_u ?_ | refine wp_gcall_t ?_ | refine wp_gcall_f rfl ?_ | refine wp_gcall_u ?_ | refine wp_ite_t ?_ | refine wp_ite_f ?_ | refine wp_faddr ?_ | refine wp_nilchk ?_ | refine wp_op (o := .mv _) rfl ?_ | refine wp_op (o := .pick _ _ _) rfl ?_ | refine wp_op (o := .extract _ _) rfl ?_)
        refine wp_ret (.inr ⟨by simp, rfl, ?_, H.grows⟩)
        have : errAt (h.take i) h[i] = 8 := by unfold errAt; rw [if_pos h8]
        rw [this] at hc
        rw [← hc]; rfl
      · repeat (first | refine wp_gop_t ?_ | refine wp_gop_f rfl ?_ | refine wp_gop_u ?_ | refine wp_gcall_t ?_ | refine wp_gcall_f rfl ?_ | refine wp_gcall_u ?_ | refine wp_ite_t ?_ | refine wp_ite_f ?_ | refine wp_faddr ?_ | refine wp_nilchk ?_ | refine wp_op (o := .mv _) rfl ?_ | refine wp_op (o := .pick _ _ _) rfl ?_ | refine wp_op (o := .extract _ _) rfl ?_)
        refine wp_saddr (i := i) H (by repeat (first | exact List.Mem.head _ | apply List.Mem.tail)) (evs_get hlt) fun q off H => ?_
        repeat (first | refine wp_gop_t ?_ | refine wp_gop_f rfl ?_ | refine wp_gop_u ?_ | refine wp_gcall_t ?_ | refine wp_gcall_f rfl ?_ | refine wp_gcall_u ?_ | refine wp_ite_t ?_ | refine wp_ite_f ?_ | refine wp_faddr ?_ | refine wp_nilchk ?_ | refine wp_op (o := .mv _) rfl ?_ | refine wp_op (o := .pick _ _ _) rfl ?_ | refine wp_op (o := .extract _ _) rfl ?_)
        refine wp_load1 H (by repeat (first | exact List.Mem.head _ | apply List.Mem.tail)) rfl ?_
        cases ha : h[i].ans with
        | false =>
          repeat (first | refine wp_gop_t ?_ | refine wp_gop_f rfl ?_ | refine wp_gop_u ?_ | refine wp_gcall_t ?_ | refine wp_gcall_f rfl ?_ | refine wp_gcall_u ?_ | refine wp_ite_t ?_ | refine wp_ite_f ?_ | refine wp_faddr ?_ | refine wp_nilchk ?_ | refine wp_op (o := .mv _) rfl ?_ | refine wp_op (o := .pick _ _ _) rfl ?_ | refine wp_op (o := .extract _ _) rfl ?_)
          refine wp_ret ?_
          show wp EM _ _ _
          have : errAt (h.take i) h[i] = 0 := by unfold errAt; rw [if_neg (by omega), if_neg (by simp [ha])]
          rw [if_pos this] at hc
          exact wp_add64 (by omega) (by omega) (wp_ret (.inl ⟨rfl, _, rfl, hc, H.dropRo (by simp)⟩))
        | true =>
          repeat (first | refine wp_gop_t ?_ | refine wp_gop_f rfl ?_ | refine wp_gop_u ?_ | refine wp_gcall_t ?_ | refine wp_gcall_f rfl ?_ | refine wp_gcall_u ?_ | refine wp_ite_t ?_ | refine wp_ite_f ?_ | refine wp_faddr ?_ | refine wp_nilchk ?_ | refine wp_op (o := .mv _) rfl ?_ | refine wp_op (o := .pick _ _ _) rfl ?_ | refine wp_op (o := .extract _ _) rfl ?_)
          refine wp_prefix (i := i) H (by repeat (first | exact List.Mem.head _ | apply List.Mem.tail)) (by rw [evs_len]; omega) fun p H => ?_
          rw [evs_take] at H
          repeat (first | refine wp_gop_t ?_ | refine wp_gop_f rfl ?_ | refine wp_gop_u ?_ | refine wp_gcall_t ?_ | refine wp_gcall_f rfl ?_ | refine wp_gcall_u ?_ | refine wp_ite_t ?_ | refine wp_ite_f ?_ | refine wp_faddr ?_ | refine wp_nilchk ?_ | refine wp_op (o := .mv _) rfl ?_ | refine wp_op (o := .pick _ _ _) rfl ?_ | refine wp_op (o := .extract _ _) rfl ?_)
          refine wp_saddr (i := i) H (by repeat (first | exact List.Mem.head _ | apply List.Mem.tail)) (evs_get hlt) fun q off H => ?_
          repeat (first | refine wp_gop_t ?_ | refine wp_gop_f rfl ?_ | refine wp_gop_u ?_ | refine wp_gcall_t ?_ | refine wp_gcall_f rfl ?_ | refine wp_gcall_u ?_ | refine wp_ite_t ?_ | refine wp_ite_f ?_ | refine wp_faddr ?_ | refine wp_nilchk ?_ | refine wp_op (o := .mv _) rfl ?_ | refine wp_op (o := .pick _ _ _) rfl ?_ | refine wp_op (o := .extract _ _) rfl ?_)
          refine wp_load1 H (by repeat (first | exact List.Mem.head _ | apply List.Mem.tail)) rfl ?_
          repeat (first | refine wp_gop_t ?_ | refine wp_gop_f rfl ?_ | refine wp_gop_u ?_ | refine wp_gcall_t ?_ | refine wp_gcall_f rfl ?_ | refine wp_gcall_u ?_ | refine wp_ite_t ?_ | refine wp_ite_f ?_ | refine wp_faddr ?_ | refine wp_nilchk ?_ | refine wp_op (o := .mv _) rfl ?_ | refine wp_op (o := .pick _ _ _) rfl ?_ | refine wp_op (o := .extract _ _) rfl ?_)
          refine wp_callV H (at_ok (H.roSl (by repeat (first | exact List.Mem.head _ | apply List.Mem.tail))) (by rw [List.length_take]; omega)) fun S2 H => ?_
          repeat (first | refine wp_gop_t ?_ | refine wp_gop_f rfl ?_ | refine wp_gop_u ?_ | refine wp_gcall_t ?_ | refine wp_gcall_f rfl ?_ | refine wp_gcall_u ?_ | refine wp_ite_t ?_ | refine wp_ite_f ?_ | refine wp_faddr ?_ | refine wp_nilchk ?_ | refine wp_op (o := .mv _) rfl ?_ | refine wp_op (o := .pick _ _ _) rfl ?_ | refine wp_op (o := .extract _ _) rfl ?_)
          refine wp_lss (fun h10 => ?_) (fun h10 => ?_)
          · repeat (first | refine wp_gop_t ?_ | refine wp_gop_f rfl ?_ | refine wp_gop_u ?_ | refine wp_gcall_t ?_ | refine wp_gcall_f rfl ?_ | refine wp_gcall_u ?_ | refine wp_ite_t ?_ | refine wp_ite_f ?_ | refine wp_faddr ?_ | refine wp_nilchk ?_ | refine wp_op (o := .mv _) rfl ?_ | refine wp_op (o := .pick _ _ _) rfl ?_ | refine wp_op (o := .extract _ _) rfl ?_)
            refine wp_ret (.inr ⟨by simp, rfl, ?_, H.grows⟩)
            have : errAt (h.take i) h[i] = 10 := by unfold errAt; rw [if_neg (by omega), if_pos ⟨ha, h10⟩]
            rw [this] at hc
            rw [← hc]; rfl
          · repeat (first | refine wp_gop_t ?_ | refine wp_gop_f rfl ?_ | refine wp_gop_u ?_ | refine wp_gcall_t ?_ | refine wp_gcall_f rfl ?_ | refine wp_gcall_u ?_ | refine wp_ite_t ?_ | refine wp_ite_f ?_ | refine wp_faddr ?_ | refine wp_nilchk ?_ | refine wp_op (o := .mv _) rfl ?_ | refine wp_op (o := .pick _ _ _) rfl ?_ | refine wp_op (o := .extract _ _) rfl ?_)
            refine wp_ret ?_
            show wp EM _ _ _
            have : errAt (h.take i) h[i] = 0 := by unfold errAt; rw [if_neg (by omega), if_neg (by omega)]
            rw [if_pos this] at hc
            exact wp_add64 (by omega) (by omega) (wp_ret (.inl ⟨rfl, _, rfl, hc, H.dropRo (by simp)⟩))
    · rintro vs S1 ⟨u, rfl, hc, H⟩
      refine wp_len H (by repeat (first | exact List.Mem.head _ | apply List.Mem.tail)) ?_
      rw [evs_len]
      refine wp_lss_f (by omega) ?_
      repeat (first | refine wp_gop_t ?_ | refine wp_gop_f rfl ?_ | refine wp_gop_u ?_ | refine wp_gcall_t ?_ | refine wp_gcall_f rfl ?_ | refine wp_gcall_u ?_ | refine wp_ite_t ?_ | refine wp_ite_f ?_ | refine wp_faddr ?_ | refine wp_nilchk ?_ | refine wp_op (o := .mv _) rfl ?_ | refine wp_op (o := .pick _ _ _) rfl ?_ | refine wp_op (o := .extract _ _) rfl ?_)
      refine wp_ret ⟨by simp, wp_ret ⟨rfl, ?_, H.grows⟩⟩
      rw [Nat.sub_self] at hc
      rw [← hc]; rfl
end Go.Abs
namespace Go.Abs
open Go.Proofs
set_option maxRecDepth 100000
theorem atIx_lt {h : List Evt} {id : Int} {ans : Bool} (h0 : 0 ≤ atIx h id ans) : ∃ j : Nat, j < h.length ∧ atIx h id ans = (j : Int) := by
  unfold atIx at h0 ⊢
  cases hf : h.findIdx? (fun y => y.id == id && y.ans == ans) with
  | none => rw [hf] at h0; simp at h0
  | some i => exact ⟨i, (List.findIdx?_eq_some_iff_getElem.1 hf).1, rfl⟩
def ansAt (h : List Evt) (to : Int) : List AV := if 0 ≤ to then (match h[to.toNat]? with | some y => [I y.b1, I y.b2, U y.b3] | none => [I 0, I 0, U 0]) else [I 0, I 0, U 0]
def spanCs (h : List Evt) (x : Evt) (i : Nat) : List AV := [I x.id, I (i : Int), I (atIx h x.id true), I x.a1, I x.a2, I x.a3, U x.a4] ++ ansAt h (atIx h x.id true)
theorem ansAt_len (h : List Evt) (to : Int) : (ansAt h to).length = 3 := by unfold ansAt; split; split <;> rfl; rfl
theorem spanCs_len (h : List Evt) (x : Evt) (i : Nat) : (spanCs h x i).length = 10 := by unfold spanCs; rw [List.length_append, ansAt_len]; rfl
/-- the calls among the first ones -/
def spansN (h : List Evt) : Nat → List (List AV)
  | 0 => []
  | i + 1 => match h[i]? with
    | some x => if x.ans = true then spansN h i else spansN h i ++ [spanCs h x i]
    | none => spansN h i
theorem spansN_len (h : List Evt) : ∀ i, (spansN h i).length ≤ i
  | 0 => Nat.le_refl _
  | i + 1 => by
    have := spansN_len h i
    unfold spansN
    split
    · split
      · omega
      · rw [List.length_append]; simp; omega
    · omega
theorem chk_len {h : List Evt} (hc : chk h = 0) : h.length ≤ 4096 := by
  unfold chk at hc
  split at hc
  · omega
  · omega

theorem refCalls_ok {S : AH} {v : AV} {h : List Evt} (hv : RoSl S v 9 (evs h)) : wpC EM (.fn (.func 16) [] []) [v] S fun r S' =>
    (chk h ≠ 0 → r = .tup [Ns, I (chk h)] ∧ Grows S S') ∧ (chk h = 0 → ∃ w, r = .tup [w, I 0] ∧ Cx S [] S' [.sl w 10 (spansN h h.length)] []) := by
  refine wpC_fn (b := Try.a16) rfl rfl ?_
  have H := Cx.ro1 hv
  unfold Try.a16
  refine wp_callV H (refCheck_ok hv) fun S1 H => ?_
  refine wp_neq (fun hne => ?_) (fun he => ?_)
  · repeat (first | refine wp_gop_t ?_ | refine wp_gop_f rfl ?_ | refine wp_gop_u ?_ | refine wp_gcall_t ?_ | refine wp_gcall_f rfl ?_ | refine wp_gcall_u ?_ | refine wp_ite_t ?_ | refine wp_ite_f ?_ | refine wp_faddr ?_ | refine wp_nilchk ?_ | refine wp_op (o := .mv _) rfl ?_ | refine wp_op (o := .pick _ _ _) rfl ?_ | refine wp_op (o := .extract _ _) rfl ?_)
    exact wp_ret ⟨rfl, fun _ => ⟨rfl, H.grows⟩, fun e => absurd e hne⟩
  have hlen := chk_len he
  repeat (first | refine wp_gop_t ?_ | refine wp_gop_f rfl ?_ | refine wp_gop_u ?_ | refine wp_gcall_t ?_ | refine wp_gcall_f rfl ?_ | refine wp_gcall_u ?_ | refine wp_ite_t ?_ | refine wp_ite_f ?_ | refine wp_faddr ?_ | refine wp_nilchk ?_ | refine wp_op (o := .mv _) rfl ?_ | refine wp_op (o := .pick _ _ _) rfl ?_ | refine wp_op (o := .extract _ _) rfl ?_)
  refine wp_bind (wp_loop (wpL_for h.length (fun i vs S1 => ∃ u : AV, vs = [I (i : Int), u] ∧ Cx S [] S1 [.sl u 10 (spansN h i)] [.sl v 9 (evs h)]) ?_ ?_ ⟨Ns, rfl, H.addOwn (Grows.refl _) (.inl ⟨rfl, rfl⟩) (by simp [Own.ids, vids])⟩))
  · rintro i vs S1 hlt ⟨u, rfl, H⟩
    have hsl := spansN_len h i
    refine wp_len H (by repeat (first | exact List.Mem.head _ | apply List.Mem.tail)) ?_
    rw [evs_len]
    refine wp_lss_t (by omega) ?_
    repeat (first | refine wp_gop_t ?_ | refine wp_gop_f rfl ?_ | refine wp_gop_u ?_ | refine wp_gcall_t ?_ | refine wp_gcall_f rfl ?_ | refine wp_gcall_u ?_ | refine wp_ite_t ?_ | refine wp_ite_f ?_ | refine wp_faddr ?_ | refine wp_nilchk ?_ | refine wp_op (o := .mv _) rfl ?_ | refine wp_op (o := .pick _ _ _) rfl ?_ | refine wp_op (o := .extract _ _) rfl ?_)
    refine wp_bind ?_
    refine wp_saddr (i := i) H (by repeat (first | exact List.Mem.head _ | apply List.Mem.tail)) (evs_get hlt) fun p off H => ?_
    repeat (first | refine wp_gop_t ?_ | refine wp_gop_f rfl ?_ | refine wp_gop_u ?_ | refine wp_gcall_t ?_ | refine wp_gcall_f rfl ?_ | refine wp_gcall_u ?_ | refine wp_ite_t ?_ | refine wp_ite_f ?_ | refine wp_faddr ?_ | refine wp_nilchk ?_ | refine wp_op (o := .mv _) rfl ?_ | refine wp_op (o := .pick _ _ _) rfl ?_ | refine wp_op (o := .extract _ _) rfl ?_)
    refine wp_load1 H (by repeat (first | exact List.Mem.head _ | apply List.Mem.tail)) rfl ?_
    cases ha : h[i].ans with
    | true =>
      repeat (first | refine wp_gop_t ?_ | refine wp_gop_f rfl ?_ | refine wp_gop_u ?_ | refine wp_gcall_t ?_ | refine wp_gcall_f rfl ?_ | refine wp_gcall_u ?_ | refine wp_ite_t ?_ | refine wp_ite_f ?_ | refine wp_faddr ?_ | refine wp_nilchk ?_ | refine wp_op (o := .mv _) rfl ?_ | refine wp_op (o := .pick _ _ _) rfl ?_ | refine wp_op (o := .extract _ _) rfl ?_)
      refine wp_ret ?_
      show wp EM _ _ _
      refine wp_add64 (by omega) (by omega) (wp_ret (.inl ⟨rfl, _, rfl, ?_⟩))
      have : spansN h (i + 1) = spansN h i := by
        conv => lhs; unfold spansN
        simp [hlt, ha]
      rw [this]; exact H.tl
    | false =>
      repeat (first | refine wp_gop_t ?_ | refine wp_gop_f rfl ?_ | refine wp_gop_u ?_ | refine wp_gcall_t ?_ | refine wp_gcall_f rfl ?_ | refine wp_gcall_u ?_ | refine wp_ite_t ?_ | refine wp_ite_f ?_ | refine wp_faddr ?_ | refine wp_nilchk ?_ | refine wp_op (o := .mv _) rfl ?_ | refine wp_op (o := .pick _ _ _) rfl ?_ | refine wp_op (o := .extract _ _) rfl ?_)
      have hsp : spansN h (i + 1) = spansN h i ++ [spanCs h h[i] i] := by
        conv => lhs; unfold spansN
        simp [hlt, ha]
      replace H := H.tl
      refine wp_saddr (i := i) H (by repeat (first | exact List.Mem.head _ | apply List.Mem.tail)) (evs_get hlt) fun p1 off1 H => ?_
      repeat (first | refine wp_gop_t ?_ | refine wp_gop_f rfl ?_ | refine wp_gop_u ?_ | refine wp_gcall_t ?_ | refine wp_gcall_f rfl ?_ | refine wp_gcall_u ?_ | refine wp_ite_t ?_ | refine wp_ite_f ?_ | refine wp_faddr ?_ | refine wp_nilchk ?_ | refine wp_op (o := .mv _) rfl ?_ | refine wp_op (o := .pick _ _ _) rfl ?_ | refine wp_op (o := .extract _ _) rfl ?_)
      refine wp_load1 H (by repeat (first | exact List.Mem.head _ | apply List.Mem.tail)) rfl ?_
      refine wp_saddr (i := i) H (by repeat (first | exact List.Mem.head _ | apply List.Mem.tail)) (evs_get hlt) fun p2 off2 H => ?_
      repeat (first | refine wp_gop_t ?_ | refine wp_gop_f rfl ?_ | refine wp_gop_u ?_ | refine wp_gcall_t ?_ | refine wp_gcall_f rfl ?_ | refine wp_gcall_u ?_ | refine wp_ite_t ?_ | refine wp_ite_f ?_ | refine wp_faddr ?_ | refine wp_nilchk ?_ | refine wp_op (o := .mv _) rfl ?_ | refine wp_op (o := .pick _ _ _) rfl ?_ | refine wp_op (o := .extract _ _) rfl ?_)
      refine wp_load1 H (by repeat (first | exact List.Mem.head _ | apply List.Mem.tail)) rfl ?_
      refine wp_saddr (i := i) H (by repeat (first | exact List.Mem.head _ | apply List.Mem.tail)) (evs_get hlt) fun p3 off3 H => ?_
      repeat (first | refine wp_gop_t ?_ | refine wp_gop_f rfl ?_ | refine wp_gop_u ?_ | refine wp_gcall_t ?_ | refine wp_gcall_f rfl ?_ | refine wp_gcall_u ?_ | refine wp_ite_t ?_ | refine wp_ite_f ?_ | refine wp_faddr ?_ | refine wp_nilchk ?_ | refine wp_op (o := .mv _) rfl ?_ | refine wp_op (o := .pick _ _ _) rfl ?_ | refine wp_op (o := .extract _ _) rfl ?_)
      refine wp_loadn H (by repeat (first | exact List.Mem.head _ | apply List.Mem.tail)) (Nat.le_of_ble_eq_true rfl) ?_
      refine wp_alloc H fun s S2 H => ?_
      refine wp_callV H (at_ok (H.roSl (by repeat (first | exact List.Mem.head _ | apply List.Mem.tail))) (by omega)) fun S3 H => ?_
      refine wp_chk1 (cs := h[i].cs) H (by repeat (first | exact List.Mem.head _ | apply List.Mem.tail)) rfl beq_num ?_
      refine wp_chkn (cs := h[i].cs) H (by repeat (first | exact List.Mem.head _ | apply List.Mem.tail)) (Nat.le_of_ble_eq_true rfl) rfl (by
        intro x hx
        simp only [Evt.cs, List.drop, List.take, List.mem_cons, List.not_mem_nil, or_false] at hx
        rcases hx with rfl | rfl | rfl | rfl <;> exact beq_num) ?_
      refine wp_op (v := .agg [I h[i].id, I (i : Int), I (atIx h h[i].id true), I h[i].a1, I h[i].a2, I h[i].a3, U h[i].a4, I 0, I 0, U 0]) rfl ?_
      refine wp_store H 0 rfl rfl rfl (Nat.le_of_ble_eq_true rfl) fun S4 H => ?_
      repeat (first | refine wp_gop_t ?_ | refine wp_gop_f rfl ?_ | refine wp_gop_u ?_ | refine wp_gcall_t ?_ | refine wp_gcall_f rfl ?_ | refine wp_gcall_u ?_ | refine wp_ite_t ?_ | refine wp_ite_f ?_ | refine wp_faddr ?_ | refine wp_nilchk ?_ | refine wp_op (o := .mv _) rfl ?_ | refine wp_op (o := .pick _ _ _) rfl ?_ | refine wp_op (o := .extract _ _) rfl ?_)
      refine wp_loado H 0 rfl rfl ?_
      have fin : ∀ S5, Cx S [] S5 [.obj s (.row (spanCs h h[i] i)), .sl u 10 (spansN h i)] [.pt p3 off3 h[i].cs, .pt p2 off2 h[i].cs, .pt p1 off1 h[i].cs, .sl v 9 (evs h)] →
          wp EM (.op (.load 10 true (.ptr s 0)) fun v26 => Try.a16x2 [I (i : Int), u] v26) S5 (boundTo EM (some 1) (fun v6 => .op (.bin .add (nth [I (i : Int), u] 0) (I 1)) fun v7 => .ret .normal [v7, nth v6 0]) (fun v6 => [nth [I (i : Int), u] 0, nth v6 0]) fun t vs1 S1 => (t = .normal ∧ ∃ u : AV, vs1 = [I ((i + 1 : Nat) : Int), u] ∧ Cx S [] S1 [.sl u 10 (spansN h (i + 1))] [.sl v 9 (evs h)]) ∨
            (t ≠ .normal ∧ boundTo EM (some 0) (fun v3 => .ret .ret [nth v3 1, I 0]) (fun v3 => [Ns, I 0]) (fun t vs S' => t = .ret ∧ ((chk h ≠ 0 → oneOf vs = .tup [Ns, I (chk h)] ∧ Grows S S') ∧ (chk h = 0 → ∃ w, oneOf vs = .tup [w, I 0] ∧ Cx S [] S' [.sl w 10 (spansN h h.length)] []))) t [nth vs1 0, nth vs1 1] S1)) := by
        intro S5 H
        have hl10 := spanCs_len h h[i] i
        refine wp_loadoa H 0 rfl (by rw [hl10]; omega) ?_
        have e : List.take 10 (List.drop 0 (spanCs h h[i] i)) = spanCs h h[i] i := by rw [List.drop_zero, List.take_of_length_le (by omega)]
        rw [e]
        refine wp_push H 1 rfl rfl hl10 rfl (by show _ * 80 ≤ _; unfold maxBytes; omega) (by unfold maxLenN; omega) fun u1 S6 H => ?_
        refine wp_ret ?_
        show wp EM _ _ _
        refine wp_add64 (by omega) (by omega) (wp_ret (.inl ⟨rfl, u1, rfl, ?_⟩))
        rw [hsp]
        exact (H.dropOwn (own' := [.sl u1 10 (spansN h i ++ [spanCs h h[i] i])]) (List.sublist_cons_self _ _)).tl.tl.tl
      refine wp_geq (fun h0 => ?_) (fun h0 => ?_)
      · obtain ⟨j, hj, he'⟩ := atIx_lt h0
        refine wp_bind ?_
        repeat (first | refine wp_gop_t ?_ | refine wp_gop_f rfl ?_ | refine wp_gop_u ?_ | refine wp_gcall_t ?_ | refine wp_gcall_f rfl ?_ | refine wp_gcall_u ?_ | refine wp_ite_t ?_ | refine wp_ite_f ?_ | refine wp_faddr ?_ | refine wp_nilchk ?_ | refine wp_op (o := .mv _) rfl ?_ | refine wp_op (o := .pick _ _ _) rfl ?_ | refine wp_op (o := .extract _ _) rfl ?_)
        refine wp_loado H 0 rfl rfl ?_
        rw [he']
        refine wp_saddr (i := j) H (by repeat (first | exact List.Mem.head _ | apply List.Mem.tail)) (evs_get hj) fun p4 off4 H => ?_
        repeat (first | refine wp_gop_t ?_ | refine wp_gop_f rfl ?_ | refine wp_gop_u ?_ | refine wp_gcall_t ?_ | refine wp_gcall_f rfl ?_ | refine wp_gcall_u ?_ | refine wp_ite_t ?_ | refine wp_ite_f ?_ | refine wp_faddr ?_ | refine wp_nilchk ?_ | refine wp_op (o := .mv _) rfl ?_ | refine wp_op (o := .pick _ _ _) rfl ?_ | refine wp_op (o := .extract _ _) rfl ?_)
        refine wp_loadn H (by repeat (first | exact List.Mem.head _ | apply List.Mem.tail)) (Nat.le_of_ble_eq_true rfl) ?_
        repeat (first | refine wp_gop_t ?_ | refine wp_gop_f rfl ?_ | refine wp_gop_u ?_ | refine wp_gcall_t ?_ | refine wp_gcall_f rfl ?_ | refine wp_gcall_u ?_ | refine wp_ite_t ?_ | refine wp_ite_f ?_ | refine wp_faddr ?_ | refine wp_nilchk ?_ | refine wp_op (o := .mv _) rfl ?_ | refine wp_op (o := .pick _ _ _) rfl ?_ | refine wp_op (o := .extract _ _) rfl ?_)
        refine wp_store H 0 rfl rfl rfl (Nat.le_of_ble_eq_true rfl) fun S5 H => ?_
        refine wp_ret ?_
        refine fin S5 (Eq.mp ?_ H.tl)
        have : spanCs h h[i] i = [I h[i].id, I (i : Int), I (j : Int), I h[i].a1, I h[i].a2, I h[i].a3, U h[i].a4, I h[j].b1, I h[j].b2, U h[j].b3] := by
          unfold spanCs ansAt
          rw [he', if_pos (by omega)]
          simp [hj]
        rw [this, he']; rfl
      · refine wp_bind ?_
        repeat (first | refine wp_gop_t ?_ | refine wp_gop_f rfl ?_ | refine wp_gop_u ?_ | refine wp_gcall_t ?_ | refine wp_gcall_f rfl ?_ | refine wp_gcall_u ?_ | refine wp_ite_t ?_ | refine wp_ite_f ?_ | refine wp_faddr ?_ | refine wp_nilchk ?_ | refine wp_op (o := .mv _) rfl ?_ | refine wp_op (o := .pick _ _ _) rfl ?_ | refine wp_op (o := .extract _ _) rfl ?_)
        refine wp_ret ?_
        refine fin S4 (Eq.mp ?_ H)
        have : spanCs h h[i] i = [I h[i].id, I (i : Int), I (atIx h h[i].id true), I h[i].a1, I h[i].a2, I h[i].a3, U h[i].a4, I 0, I 0, U 0] := by
          unfold spanCs ansAt
          rw [if_neg (by omega)]; rfl
        rw [this]; rfl
  · rintro vs S1 ⟨u, rfl, H⟩
    refine wp_len H (by repeat (first | exact List.Mem.head _ | apply List.Mem.tail)) ?_
    rw [evs_len]
    refine wp_lss_f (by omega) ?_
    repeat (first | refine wp_gop_t ?_ | refine wp_gop_f rfl ?_ | refine wp_gop_u ?_ | refine wp_gcall_t ?_ | refine wp_gcall_f rfl ?_ | refine wp_gcall_u ?_ | refine wp_ite_t ?_ | refine wp_ite_f ?_ | refine wp_faddr ?_ | refine wp_nilchk ?_ | refine wp_op (o := .mv _) rfl ?_ | refine wp_op (o := .pick _ _ _) rfl ?_ | refine wp_op (o := .extract _ _) rfl ?_)
    exact wp_ret ⟨by simp, wp_ret ⟨rfl, fun e => absurd he e, fun _ => ⟨u, rfl, H.tl⟩⟩⟩
end Go.Abs
namespace Go.Abs
open Go.Proofs
set_option maxRecDepth 100000
theorem e_max {M : Mach} {S : AH} {a b : Int} : evalOp M.P (.minmax true [I a, I b]) S = some (I (max a b), S) := by
  show pur (minmax1 true (I a) (I b)) S = _
  have : minmax1 true (I a) (I b) = some (I (if ltF a b then b else a)) := rfl
  rw [this, ltF_eq]
  show some (I _, S) = _
  congr 3
  by_cases h : a < b
  · simp [h]; omega
  · simp [h]; omega
theorem wp_not {M : Mach} {S : AH} {Q : Post} {k : AV → AC} {b : Bool} (h : wp M (k (B (!b))) S Q) : wp M (.op (.un .not (B b)) k) S Q := wp_op (v := B (!b)) rfl h

/-- the calls among the first ones, and where they stand -/
def callsN (h : List Evt) : Nat → List (Evt × Nat)
  | 0 => []
  | i + 1 => match h[i]? with
    | some x => if x.ans = true then callsN h i else callsN h i ++ [(x, i)]
    | none => callsN h i
def spc (h : List Evt) (p : Evt × Nat) : List AV := spanCs h p.1 p.2
theorem spansN_eq (h : List Evt) : ∀ i, spansN h i = (callsN h i).map (spc h)
  | 0 => rfl
  | i + 1 => by
    unfold spansN callsN
    have ih := spansN_eq h i
    cases h[i]? with
    | none => exact ih
    | some x =>
      simp only
      by_cases hx : x.ans = true
      · rw [if_pos hx, if_pos hx]; exact ih
      · rw [if_neg hx, if_neg hx, ih, List.map_append]; rfl
theorem callsN_len (h : List Evt) (i : Nat) : (callsN h i).length ≤ i := by
  have := spansN_len h i
  rwa [spansN_eq, List.length_map] at this
def pendL (h : List Evt) (l : List (Evt × Nat)) : List Int := (l.filter fun p => decide (atIx h p.1.id true < 0)).map fun p => p.1.id
def pend (h : List Evt) : List Int := if chk h = 0 then pendL h (callsN h h.length) else []
theorem pendL_len (h : List Evt) (l : List (Evt × Nat)) : (pendL h l).length ≤ l.length := by unfold pendL; rw [List.length_map]; exact List.length_filter_le _ _
theorem pend_len (h : List Evt) : (pend h).length ≤ h.length := by
  unfold pend
  split
  · exact Nat.le_trans (pendL_len _ _) (callsN_len _ _)
  · simp

theorem refPending_ok {S : AH} {v : AV} {h : List Evt} (hv : RoSl S v 9 (evs h)) : wpC EM (.fn (.func 20) [] []) [v] S fun r S' => Cx S [] S' [.sl r 1 (ints (pend h))] [] := by
  refine wpC_fn (b := Try.a20) rfl rfl ?_
  have H := Cx.ro1 hv
  unfold Try.a20
  -- the calls, or none
  refine wp_call (wpC_mono (refCalls_ok hv) fun r S1 q => ?_)
  have key : ∃ w e, r = .tup [w, e] ∧ Cx S [] S1 [.sl w 10 ((if chk h = 0 then callsN h h.length else []).map (spc h))] [] := by
    by_cases hc : chk h = 0
    · obtain ⟨w, h1, h2⟩ := q.2 hc
      rw [if_pos hc]
      rw [spansN_eq] at h2
      exact ⟨w, _, h1, h2⟩
    · obtain ⟨h1, h2⟩ := q.1 hc
      rw [if_neg hc]
      exact ⟨Ns, _, h1, ((Cx.enter (ro := []) (by simp)).grow h2).addOwn (Grows.refl _) (.inl ⟨rfl, rfl⟩) (by simp [Own.ids, vids])⟩
  obtain ⟨w, e, rfl, K⟩ := key
  generalize hL : (if chk h = 0 then callsN h h.length else []) = L at K
  have hpend : pend h = pendL h L := by
    unfold pend
    rw [← hL]
    split <;> rfl
  have hLlen : L.length ≤ 4096 := by
    rw [← hL]
    split
    · rename_i hc
      have := callsN_len h h.length
      have := chk_len hc
      omega
    · simp
  repeat (first | refine wp_gop_t ?_ | refine wp_gop_f rfl ?_ | refine wp_gop_u ?_ | refine wp_gcall_t ?_ | refine wp_gcall_f rfl ?_ | refine wp_gcall_u ?_ | refine wp_ite_t ?_ | refine wp_ite_f ?_ | refine wp_faddr ?_ | refine wp_nilchk ?_ | refine wp_op (o := .mv _) rfl ?_ | refine wp_op (o := .pick _ _ _) rfl ?_ | refine wp_op (o := .extract _ _) rfl ?_)
  have H : Cx S [] S1 [.sl Ns 1 [], .sl w 10 (L.map (spc h))] [] := K.addOwn (Grows.refl _) (.inl ⟨rfl, rfl⟩) (by simp [Own.ids, vids])
  refine wp_bind (wp_loop (wpL_for L.length (fun i vs S2 => ∃ u : AV, vs = [I (i : Int), u] ∧ Cx S [] S2 [.sl u 1 (ints (pendL h (L.take i))), .sl w 10 (L.map (spc h))] []) ?_ ?_ ⟨Ns, rfl, H⟩))
  · rintro i vs S2 hlt ⟨u, rfl, H⟩
    refine wp_leno H 1 rfl ?_
    rw [List.length_map]
    refine wp_lss_t (by omega) ?_
    repeat (first | refine wp_gop_t ?_ | refine wp_gop_f rfl ?_ | refine wp_gop_u ?_ | refine wp_gcall_t ?_ | refine wp_gcall_f rfl ?_ | refine wp_gcall_u ?_ | refine wp_ite_t ?_ | refine wp_ite_f ?_ | refine wp_faddr ?_ | refine wp_nilchk ?_ | refine wp_op (o := .mv _) rfl ?_ | refine wp_op (o := .pick _ _ _) rfl ?_ | refine wp_op (o := .extract _ _) rfl ?_)
    refine wp_bind ?_
    have hget : (L.map (spc h))[i]? = some (spanCs h L[i].1 L[i].2) := by simp [hlt, spc]
    have htk : L.take (i + 1) = L.take i ++ [L[i]] := List.take_succ_eq_append_getElem hlt
    refine wp_saddro H 1 rfl hget fun p off hp => ?_
    repeat (first | refine wp_gop_t ?_ | refine wp_gop_f rfl ?_ | refine wp_gop_u ?_ | refine wp_gcall_t ?_ | refine wp_gcall_f rfl ?_ | refine wp_gcall_u ?_ | refine wp_ite_t ?_ | refine wp_ite_f ?_ | refine wp_faddr ?_ | refine wp_nilchk ?_ | refine wp_op (o := .mv _) rfl ?_ | refine wp_op (o := .pick _ _ _) rfl ?_ | refine wp_op (o := .extract _ _) rfl ?_)
    refine wp_loadF hp (j := 2) rfl ?_
    have hpl : (pendL h (L.take i)).length ≤ i := Nat.le_trans (pendL_len _ _) (by rw [List.length_take]; omega)
    refine wp_lss (fun hneg => ?_) (fun hpos => ?_)
    · refine wp_bind ?_
      repeat (first | refine wp_gop_t ?_ | refine wp_gop_f rfl ?_ | refine wp_gop_u ?_ | refine wp_gcall_t ?_ | refine wp_gcall_f rfl ?_ | refine wp_gcall_u ?_ | refine wp_ite_t ?_ | refine wp_ite_f ?_ | refine wp_faddr ?_ | refine wp_nilchk ?_ | refine wp_op (o := .mv _) rfl ?_ | refine wp_op (o := .pick _ _ _) rfl ?_ | refine wp_op (o := .extract _ _) rfl ?_)
      refine wp_saddro H 1 rfl hget fun p off hp => ?_
      repeat (first | refine wp_gop_t ?_ | refine wp_gop_f rfl ?_ | refine wp_gop_u ?_ | refine wp_gcall_t ?_ | refine wp_gcall_f rfl ?_ | refine wp_gcall_u ?_ | refine wp_ite_t ?_ | refine wp_ite_f ?_ | refine wp_faddr ?_ | refine wp_nilchk ?_ | refine wp_op (o := .mv _) rfl ?_ | refine wp_op (o := .pick _ _ _) rfl ?_ | refine wp_op (o := .extract _ _) rfl ?_)
      refine wp_loadF hp (j := 0) rfl ?_
      refine wp_push H 0 rfl rfl rfl rfl (by rw [ints_len]; unfold maxBytes; omega) (by rw [ints_len]; unfold maxLenN; omega) fun u1 S3 H => ?_
      refine wp_ret (wp_ret ?_)
      show wp EM _ _ _
      refine wp_add64 (by omega) (by omega) (wp_ret (.inl ⟨rfl, u1, rfl, ?_⟩))
      have : pendL h (L.take (i + 1)) = pendL h (L.take i) ++ [L[i].1.id] := by
        rw [htk]; unfold pendL
        rw [List.filter_append, List.map_append]
        simp [hneg]
      rw [this]
      unfold ints at H ⊢
      rw [List.map_append]
      exact H
    · refine wp_bind ?_
      repeat (first | refine wp_gop_t ?_ | refine wp_gop_f rfl ?_ | refine wp_gop_u ?_ | refine wp_gcall_t ?_ | refine wp_gcall_f rfl ?_ | refine wp_gcall_u ?_ | refine wp_ite_t ?_ | refine wp_ite_f ?_ | refine wp_faddr ?_ | refine wp_nilchk ?_ | refine wp_op (o := .mv _) rfl ?_ | refine wp_op (o := .pick _ _ _) rfl ?_ | refine wp_op (o := .extract _ _) rfl ?_)
      refine wp_ret (wp_ret ?_)
      show wp EM _ _ _
      refine wp_add64 (by omega) (by omega) (wp_ret (.inl ⟨rfl, u, rfl, ?_⟩))
      have : pendL h (L.take (i + 1)) = pendL h (L.take i) := by
        rw [htk]; unfold pendL
        rw [List.filter_append, List.map_append]
        have : ¬ atIx h L[i].1.id true < 0 := by omega
        simp [this]
      rw [this]; exact H
  · rintro vs S2 ⟨u, rfl, H⟩
    refine wp_leno H 1 rfl ?_
    rw [List.length_map]
    refine wp_lss_f (by omega) ?_
    repeat (first | refine wp_gop_t ?_ | refine wp_gop_f rfl ?_ | refine wp_gop_u ?_ | refine wp_gcall_t ?_ | refine wp_gcall_f rfl ?_ | refine wp_gcall_u ?_ | refine wp_ite_t ?_ | refine wp_ite_f ?_ | refine wp_faddr ?_ | refine wp_nilchk ?_ | refine wp_op (o := .mv _) rfl ?_ | refine wp_op (o := .pick _ _ _) rfl ?_ | refine wp_op (o := .extract _ _) rfl ?_)
    refine wp_ret ⟨by simp, wp_ret ⟨rfl, ?_⟩⟩
    rw [List.take_length] at H
    rw [hpend]
    exact (H.dropOwn (List.Sublist.cons_cons _ (List.nil_sublist _)) : Cx S [] S2 [.sl u 1 (ints (pendL h L))] [])
end Go.Abs
namespace Go.Abs
open Go.Proofs
set_option maxRecDepth 100000
theorem among_ok {S : AH} {v : AV} {l : List Int} {id : Int} (h : RoSl S v 1 (ints l)) (hl : l.length < 4611686018427387904) : wpC EM (.fn (.func 36) [] []) [v, I id] S fun r S' => r = B (decide (id ∈ l)) ∧ Grows S S' := by
  refine wpC_fn (b := Try.a36) rfl rfl ?_
  have H := Cx.ro1 h
  unfold Try.a36
  refine wp_bind (wp_loop (wpL_for l.length (fun i vs S1 => ∃ u : AV, vs = [I (i : Int), u] ∧ (∀ x ∈ l.take i, x ≠ id) ∧ Cx S [] S1 [] [.sl v 1 (ints l)]) ?_ ?_ ⟨_, rfl, by simp, H⟩))
  · rintro i vs S1 hlt ⟨u, rfl, hpre, H⟩
    refine wp_len H (by repeat (first | exact List.Mem.head _ | apply List.Mem.tail)) ?_
    rw [ints_len]
    refine wp_lss_t (by omega) ?_
    repeat (first | refine wp_gop_t ?_ | refine wp_gop_f rfl ?_ | refine wp_gop_u ?_ | refine wp_gcall_t ?_ | refine wp_gcall_f rfl ?_ | refine wp_gcall_u ?_ | refine wp_ite_t ?_ | refine wp_ite_f ?_ | refine wp_faddr ?_ | refine wp_nilchk ?_ | refine wp_op (o := .mv _) rfl ?_ | refine wp_op (o := .pick _ _ _) rfl ?_ | refine wp_op (o := .extract _ _) rfl ?_)
    refine wp_bind ?_
    refine wp_saddr (i := i) (x := [I l[i]]) H (by repeat (first | exact List.Mem.head _ | apply List.Mem.tail)) (by simp [ints, hlt]) fun p off H => ?_
    refine wp_load0 H (by repeat (first | exact List.Mem.head _ | apply List.Mem.tail)) rfl ?_
    refine wp_eql (fun he => ?_) (fun hne => ?_)
    · repeat (first | refine wp_gop_t ?_ | refine wp_gop_f rfl ?_ | refine wp_gop_u ?_ | refine wp_gcall_t ?_ | refine wp_gcall_f rfl ?_ | refine wp_gcall_u ?_ | refine wp_ite_t ?_ | refine wp_ite_f ?_ | refine wp_faddr ?_ | refine wp_nilchk ?_ | refine wp_op (o := .mv _) rfl ?_ | refine wp_op (o := .pick _ _ _) rfl ?_ | refine wp_op (o := .extract _ _) rfl ?_)
      have : decide (id ∈ l) = true := decide_eq_true (he ▸ List.getElem_mem hlt)
      exact wp_ret (.inr ⟨by simp, rfl, by rw [this]; rfl, H.grows⟩)
    · repeat (first | refine wp_gop_t ?_ | refine wp_gop_f rfl ?_ | refine wp_gop_u ?_ | refine wp_gcall_t ?_ | refine wp_gcall_f rfl ?_ | refine wp_gcall_u ?_ | refine wp_ite_t ?_ | refine wp_ite_f ?_ | refine wp_faddr ?_ | refine wp_nilchk ?_ | refine wp_op (o := .mv _) rfl ?_ | refine wp_op (o := .pick _ _ _) rfl ?_ | refine wp_op (o := .extract _ _) rfl ?_)
      refine wp_ret ?_
      show wp EM _ _ _
      refine wp_add64 (by omega) (by omega) (wp_ret (.inl ⟨rfl, _, rfl, fun x hx => ?_, H.tl⟩))
      rw [List.take_succ_eq_append_getElem hlt, List.mem_append, List.mem_singleton] at hx
      rcases hx with hx | rfl
      · exact hpre x hx
      · exact hne
  · rintro vs S1 ⟨u, rfl, hpre, H⟩
    refine wp_len H (by repeat (first | exact List.Mem.head _ | apply List.Mem.tail)) ?_
    rw [ints_len]
    refine wp_lss_f (by omega) ?_
    repeat (first | refine wp_gop_t ?_ | refine wp_gop_f rfl ?_ | refine wp_gop_u ?_ | refine wp_gcall_t ?_ | refine wp_gcall_f rfl ?_ | refine wp_gcall_u ?_ | refine wp_ite_t ?_ | refine wp_ite_f ?_ | refine wp_faddr ?_ | refine wp_nilchk ?_ | refine wp_op (o := .mv _) rfl ?_ | refine wp_op (o := .pick _ _ _) rfl ?_ | refine wp_op (o := .extract _ _) rfl ?_)
    have : decide (id ∈ l) = false := decide_eq_false fun hm => by
      rw [List.take_length] at hpre
      exact hpre id hm rfl
    exact wp_ret ⟨by simp, wp_ret ⟨rfl, by rw [this]; rfl, H.grows⟩⟩

/-- how many are under way, and were at most -/
def mostN (h : List Evt) : Nat → Int × Int
  | 0 => (0, 0)
  | i + 1 => match h[i]? with
    | some x => let now := (mostN h i).2 + (if x.ans = true then -1 else 1)
      (max (mostN h i).1 now, now)
    | none => mostN h i
theorem mostN_bd (h : List Evt) : ∀ i : Nat, (mostN h i).2 ≤ i ∧ -(i : Int) ≤ (mostN h i).2
  | 0 => ⟨Int.le_refl _, Int.le_refl _⟩
  | i + 1 => by
    have := mostN_bd h i
    unfold mostN
    split
    · split <;> constructor <;> simp <;> omega
    · constructor <;> omega
def most (h : List Evt) : Int := if chk h = 0 then (mostN h h.length).1 else 0
theorem refMost_ok {S : AH} {v : AV} {h : List Evt} (hv : RoSl S v 9 (evs h)) : wpC EM (.fn (.func 21) [] []) [v] S fun r S' => r = I (most h) ∧ Grows S S' := by
  refine wpC_fn (b := Try.a21) rfl rfl ?_
  have H := Cx.ro1 hv
  unfold Try.a21 most
  refine wp_callV H (refCheck_ok hv) fun S1 H => ?_
  refine wp_neq (fun hne => ?_) (fun he => ?_)
  · rw [if_neg hne]
    repeat (first | refine wp_gop_t ?_ | refine wp_gop_f rfl ?_ | refine wp_gop_u ?_ | refine wp_gcall_t ?_ | refine wp_gcall_f rfl ?_ | refine wp_gcall_u ?_ | refine wp_ite_t ?_ | refine wp_ite_f ?_ | refine wp_faddr ?_ | refine wp_nilchk ?_ | refine wp_op (o := .mv _) rfl ?_ | refine wp_op (o := .pick _ _ _) rfl ?_ | refine wp_op (o := .extract _ _) rfl ?_)
    exact wp_ret ⟨rfl, rfl, H.grows⟩
  rw [if_pos he]
  have hlen := chk_len he
  repeat (first | refine wp_gop_t ?_ | refine wp_gop_f rfl ?_ | refine wp_gop_u ?_ | refine wp_gcall_t ?_ | refine wp_gcall_f rfl ?_ | refine wp_gcall_u ?_ | refine wp_ite_t ?_ | refine wp_ite_f ?_ | refine wp_faddr ?_ | refine wp_nilchk ?_ | refine wp_op (o := .mv _) rfl ?_ | refine wp_op (o := .pick _ _ _) rfl ?_ | refine wp_op (o := .extract _ _) rfl ?_)
  refine wp_bind (wp_loop (wpL_for h.length (fun i vs S1 => vs = [I (i : Int), I (mostN h i).1, I (mostN h i).2] ∧ Cx S [] S1 [] [.sl v 9 (evs h)]) ?_ ?_ ⟨rfl, H⟩))
  · rintro i vs S1 hlt ⟨rfl, H⟩
    have hbd := mostN_bd h i
    refine wp_len H (by repeat (first | exact List.Mem.head _ | apply List.Mem.tail)) ?_
    rw [evs_len]
    refine wp_lss_t (by omega) ?_
    repeat (first | refine wp_gop_t ?_ | refine wp_gop_f rfl ?_ | refine wp_gop_u ?_ | refine wp_gcall_t ?_ | refine wp_gcall_f rfl ?_ | refine wp_gcall_u ?_ | refine wp_ite_t ?_ | refine wp_ite_f ?_ | refine wp_faddr ?_ | refine wp_nilchk ?_ | refine wp_op (o := .mv _) rfl ?_ | refine wp_op (o := .pick _ _ _) rfl ?_ | refine wp_op (o := .extract _ _) rfl ?_)
    refine wp_bind ?_
    refine wp_saddr (i := i) H (by repeat (first | exact List.Mem.head _ | apply List.Mem.tail)) (evs_get hlt) fun p off H => ?_
    repeat (first | refine wp_gop_t ?_ | refine wp_gop_f rfl ?_ | refine wp_gop_u ?_ | refine wp_gcall_t ?_ | refine wp_gcall_f rfl ?_ | refine wp_gcall_u ?_ | refine wp_ite_t ?_ | refine wp_ite_f ?_ | refine wp_faddr ?_ | refine wp_nilchk ?_ | refine wp_op (o := .mv _) rfl ?_ | refine wp_op (o := .pick _ _ _) rfl ?_ | refine wp_op (o := .extract _ _) rfl ?_)
    refine wp_load1 H (by repeat (first | exact List.Mem.head _ | apply List.Mem.tail)) rfl ?_
    cases ha : h[i].ans with
    | true =>
      refine wp_bind ?_
      repeat (first | refine wp_gop_t ?_ | refine wp_gop_f rfl ?_ | refine wp_gop_u ?_ | refine wp_gcall_t ?_ | refine wp_gcall_f rfl ?_ | refine wp_gcall_u ?_ | refine wp_ite_t ?_ | refine wp_ite_f ?_ | refine wp_faddr ?_ | refine wp_nilchk ?_ | refine wp_op (o := .mv _) rfl ?_ | refine wp_op (o := .pick _ _ _) rfl ?_ | refine wp_op (o := .extract _ _) rfl ?_)
      refine wp_sub64 (by omega) (by omega) ?_
      refine wp_ret (wp_op e_max ?_)
      refine wp_ret ?_
      show wp EM _ _ _
      refine wp_add64 (by omega) (by omega) (wp_ret (.inl ⟨rfl, ?_, H.tl⟩))
      have : mostN h (i + 1) = (max (mostN h i).1 ((mostN h i).2 - 1), (mostN h i).2 - 1) := by
        conv => lhs; unfold mostN
        simp [hlt, ha]; omega
      rw [this]; rfl
    | false =>
      refine wp_bind ?_
      repeat (first | refine wp_gop_t ?_ | refine wp_gop_f rfl ?_ | refine wp_gop_u ?_ | refine wp_gcall_t ?_ | refine wp_gcall_f rfl ?_ | refine wp_gcall_u ?_ | refine wp_ite_t ?_ | refine wp_ite_f ?_ | refine wp_faddr ?_ | refine wp_nilchk ?_ | refine wp_op (o := .mv _) rfl ?_ | refine wp_op (o := .pick _ _ _) rfl ?_ | refine wp_op (o := .extract _ _) rfl ?_)
      refine wp_add64 (by omega) (by omega) ?_
      refine wp_ret (wp_op e_max ?_)
      refine wp_ret ?_
      show wp EM _ _ _
      refine wp_add64 (by omega) (by omega) (wp_ret (.inl ⟨rfl, ?_, H.tl⟩))
      have : mostN h (i + 1) = (max (mostN h i).1 ((mostN h i).2 + 1), (mostN h i).2 + 1) := by
        conv => lhs; unfold mostN
        simp [hlt, ha]
      rw [this]; rfl
  · rintro vs S1 ⟨rfl, H⟩
    refine wp_len H (by repeat (first | exact List.Mem.head _ | apply List.Mem.tail)) ?_
    rw [evs_len]
    refine wp_lss_f (by omega) ?_
    repeat (first | refine wp_gop_t ?_ | refine wp_gop_f rfl ?_ | refine wp_gop_u ?_ | refine wp_gcall_t ?_ | refine wp_gcall_f rfl ?_ | refine wp_gcall_u ?_ | refine wp_ite_t ?_ | refine wp_ite_f ?_ | refine wp_faddr ?_ | refine wp_nilchk ?_ | refine wp_op (o := .mv _) rfl ?_ | refine wp_op (o := .pick _ _ _) rfl ?_ | refine wp_op (o := .extract _ _) rfl ?_)
    exact wp_ret ⟨by simp, wp_ret ⟨rfl, rfl, H.grows⟩⟩

/-- what is left: of those that a test lets by -/
theorem evs_append (a b : List Evt) : evs (a ++ b) = evs a ++ evs b := by simp [evs]
def whole (h : List Evt) : List Evt := h.filter fun x => !decide (x.id ∈ pend h)
theorem refWhole_ok {S : AH} {v : AV} {h : List Evt} (hv : RoSl S v 9 (evs h)) : wpC EM (.fn (.func 27) [] []) [v] S fun r S' =>
    (chk h ≠ 0 → r = .tup [Ns, I (chk h)] ∧ Grows S S') ∧ (chk h = 0 → ∃ w, r = .tup [w, I 0] ∧ Cx S [] S' [.sl w 9 (evs (whole h))] []) := by
  refine wpC_fn (b := Try.a27) rfl rfl ?_
  have H := Cx.ro1 hv
  unfold Try.a27
  refine wp_callV H (refCheck_ok hv) fun S1 H => ?_
  refine wp_neq (fun hne => ?_) (fun he => ?_)
  · repeat (first | refine wp_gop_t ?_ | refine wp_gop_f rfl ?_ | refine wp_gop_u ?_ | refine wp_gcall_t ?_ | refine wp_gcall_f rfl ?_ | refine wp_gcall_u ?_ | refine wp_ite_t ?_ | refine wp_ite_f ?_ | refine wp_faddr ?_ | refine wp_nilchk ?_ | refine wp_op (o := .mv _) rfl ?_ | refine wp_op (o := .pick _ _ _) rfl ?_ | refine wp_op (o := .extract _ _) rfl ?_)
    exact wp_ret ⟨rfl, fun _ => ⟨rfl, H.grows⟩, fun e => absurd e hne⟩
  have hlen := chk_len he
  repeat (first | refine wp_gop_t ?_ | refine wp_gop_f rfl ?_ | refine wp_gop_u ?_ | refine wp_gcall_t ?_ | refine wp_gcall_f rfl ?_ | refine wp_gcall_u ?_ | refine wp_ite_t ?_ | refine wp_ite_f ?_ | refine wp_faddr ?_ | refine wp_nilchk ?_ | refine wp_op (o := .mv _) rfl ?_ | refine wp_op (o := .pick _ _ _) rfl ?_ | refine wp_op (o := .extract _ _) rfl ?_)
  refine wp_callN H (refPending_ok (H.roSl (by repeat (first | exact List.Mem.head _ | apply List.Mem.tail)))) fun n S2 H => ?_
  have hpl := pend_len h
  refine wp_bind (wp_loop (wpL_for h.length (fun i vs S1 => ∃ u : AV, vs = [I (i : Int), u] ∧ Cx S [] S1 [.sl u 9 (evs ((h.take i).filter fun x => !decide (x.id ∈ pend h))), .sl n 1 (ints (pend h))] [.sl v 9 (evs h)]) ?_ ?_ ⟨Ns, rfl, H.addOwn (Grows.refl _) (.inl ⟨rfl, rfl⟩) (by simp [Own.ids, vids])⟩))
  · rintro i vs S1 hlt ⟨u, rfl, H⟩
    have htk : h.take (i + 1) = h.take i ++ [h[i]] := List.take_succ_eq_append_getElem hlt
    have hfl : ((h.take i).filter fun x => !decide (x.id ∈ pend h)).length ≤ i := Nat.le_trans (List.length_filter_le _ _) (by rw [List.length_take]; omega)
    refine wp_len H (by repeat (first | exact List.Mem.head _ | apply List.Mem.tail)) ?_
    rw [evs_len]
    refine wp_lss_t (by omega) ?_
    repeat (first | refine wp_gop_t ?_ | refine wp_gop_f rfl ?_ | refine wp_gop_u ?_ | refine wp_gcall_t ?_ | refine wp_gcall_f rfl ?_ | refine wp_gcall_u ?_ | refine wp_ite_t ?_ | refine wp_ite_f ?_ | refine wp_faddr ?_ | refine wp_nilchk ?_ | refine wp_op (o := .mv _) rfl ?_ | refine wp_op (o := .pick _ _ _) rfl ?_ | refine wp_op (o := .extract _ _) rfl ?_)
    refine wp_bind ?_
    refine wp_saddr (i := i) H (by repeat (first | exact List.Mem.head _ | apply List.Mem.tail)) (evs_get hlt) fun p off H => ?_
    repeat (first | refine wp_gop_t ?_ | refine wp_gop_f rfl ?_ | refine wp_gop_u ?_ | refine wp_gcall_t ?_ | refine wp_gcall_f rfl ?_ | refine wp_gcall_u ?_ | refine wp_ite_t ?_ | refine wp_ite_f ?_ | refine wp_faddr ?_ | refine wp_nilchk ?_ | refine wp_op (o := .mv _) rfl ?_ | refine wp_op (o := .pick _ _ _) rfl ?_ | refine wp_op (o := .extract _ _) rfl ?_)
    refine wp_load1 H (by repeat (first | exact List.Mem.head _ | apply List.Mem.tail)) rfl ?_
    refine wp_callV H (among_ok (H.ownSl (n := 1) rfl) (by omega)) fun S3 H => ?_
    refine wp_not ?_
    by_cases hm : h[i].id ∈ pend h
    · rw [decide_eq_true hm]
      refine wp_bind ?_
      repeat (first | refine wp_gop_t ?_ | refine wp_gop_f rfl ?_ | refine wp_gop_u ?_ | refine wp_gcall_t ?_ | refine wp_gcall_f rfl ?_ | refine wp_gcall_u ?_ | refine wp_ite_t ?_ | refine wp_ite_f ?_ | refine wp_faddr ?_ | refine wp_nilchk ?_ | refine wp_op (o := .mv _) rfl ?_ | refine wp_op (o := .pick _ _ _) rfl ?_ | refine wp_op (o := .extract _ _) rfl ?_)
      refine wp_ret (wp_ret ?_)
      show wp EM _ _ _
      refine wp_add64 (by omega) (by omega) (wp_ret (.inl ⟨rfl, u, rfl, ?_⟩))
      rw [htk, List.filter_append]
      simpa [hm] using H.tl
    · rw [decide_eq_false hm]
      refine wp_bind ?_
      repeat (first | refine wp_gop_t ?_ | refine wp_gop_f rfl ?_ | refine wp_gop_u ?_ | refine wp_gcall_t ?_ | refine wp_gcall_f rfl ?_ | refine wp_gcall_u ?_ | refine wp_ite_t ?_ | refine wp_ite_f ?_ | refine wp_faddr ?_ | refine wp_nilchk ?_ | refine wp_op (o := .mv _) rfl ?_ | refine wp_op (o := .pick _ _ _) rfl ?_ | refine wp_op (o := .extract _ _) rfl ?_)
      refine wp_saddr (i := i) H (by repeat (first | exact List.Mem.head _ | apply List.Mem.tail)) (evs_get hlt) fun p off H => ?_
      refine wp_loada H (by repeat (first | exact List.Mem.head _ | apply List.Mem.tail)) (Nat.le_of_ble_eq_true rfl) ?_
      refine wp_push H 0 rfl rfl rfl rfl (by rw [evs_len]; unfold maxBytes; omega) (by rw [evs_len]; unfold maxLenN; omega) fun u1 S4 H => ?_
      refine wp_ret (wp_ret ?_)
      show wp EM _ _ _
      refine wp_add64 (by omega) (by omega) (wp_ret (.inl ⟨rfl, u1, rfl, ?_⟩))
      rw [htk, List.filter_append, evs_append]
      have e : evs (List.filter (fun x => !decide (x.id ∈ pend h)) [h[i]]) = [h[i].cs] := by simp [hm, evs]
      rw [e]
      exact H.tl.tl
  · rintro vs S1 ⟨u, rfl, H⟩
    refine wp_len H (by repeat (first | exact List.Mem.head _ | apply List.Mem.tail)) ?_
    rw [evs_len]
    refine wp_lss_f (by omega) ?_
    repeat (first | refine wp_gop_t ?_ | refine wp_gop_f rfl ?_ | refine wp_gop_u ?_ | refine wp_gcall_t ?_ | refine wp_gcall_f rfl ?_ | refine wp_gcall_u ?_ | refine wp_ite_t ?_ | refine wp_ite_f ?_ | refine wp_faddr ?_ | refine wp_nilchk ?_ | refine wp_op (o := .mv _) rfl ?_ | refine wp_op (o := .pick _ _ _) rfl ?_ | refine wp_op (o := .extract _ _) rfl ?_)
    refine wp_ret ⟨by simp, wp_ret ⟨rfl, fun e => absurd he e, fun _ => ⟨u, rfl, ?_⟩⟩⟩
    rw [List.take_length] at H
    exact (H.dropOwn (own' := [.sl u 9 (evs (whole h))]) (List.Sublist.cons_cons _ (List.nil_sublist _))).tl

def only (h : List Evt) (l : List Int) : List Evt := h.filter fun x => decide (x.id ∈ l)
theorem refOnly_ok {S : AH} {v v' : AV} {h : List Evt} {l : List Int} (hv : RoSl S v 9 (evs h)) (hv' : RoSl S v' 1 (ints l)) (hlen : h.length ≤ 100000) (hl : l.length < 4611686018427387904) :
    wpC EM (.fn (.func 29) [] []) [v, v'] S fun r S' => Cx S [] S' [.sl r 9 (evs (only h l))] [] := by
  refine wpC_fn (b := Try.a29) rfl rfl ?_
  have H := Cx.ro2 hv hv'
  unfold Try.a29
  refine wp_bind (wp_loop (wpL_for h.length (fun i vs S1 => ∃ u : AV, vs = [I (i : Int), u] ∧ Cx S [] S1 [.sl u 9 (evs ((h.take i).filter fun x => decide (x.id ∈ l)))] [.sl v 9 (evs h), .sl v' 1 (ints l)]) ?_ ?_ ⟨Ns, rfl, H.addOwn (Grows.refl _) (.inl ⟨rfl, rfl⟩) (by simp [Own.ids, vids])⟩))
  · rintro i vs S1 hlt ⟨u, rfl, H⟩
    have htk : h.take (i + 1) = h.take i ++ [h[i]] := List.take_succ_eq_append_getElem hlt
    have hfl : ((h.take i).filter fun x => decide (x.id ∈ l)).length ≤ i := Nat.le_trans (List.length_filter_le _ _) (by rw [List.length_take]; omega)
    refine wp_len H (by repeat (first | exact List.Mem.head _ | apply List.Mem.tail)) ?_
    rw [evs_len]
    refine wp_lss_t (by omega) ?_
    repeat (first | refine wp_gop_t ?_ | refine wp_gop_f rfl ?_ | refine wp_gop_u ?_ | refine wp_gcall_t ?_ | refine wp_gcall_f rfl ?_ | refine wp_gcall_u ?_ | refine wp_ite_t ?_ | refine wp_ite_f ?_ | refine wp_faddr ?_ | refine wp_nilchk ?_ | refine wp_op (o := .mv _) rfl ?_ | refine wp_op (o := .pick _ _ _) rfl ?_ | refine wp_op (o := .extract _ _) rfl ?_)
    refine wp_bind ?_
    refine wp_saddr (i := i) H (by repeat (first | exact List.Mem.head _ | apply List.Mem.tail)) (evs_get hlt) fun p off H => ?_
    repeat (first | refine wp_gop_t ?_ | refine wp_gop_f rfl ?_ | refine wp_gop_u ?_ | refine wp_gcall_t ?_ | refine wp_gcall_f rfl ?_ | refine wp_gcall_u ?_ | refine wp_ite_t ?_ | refine wp_ite_f ?_ | refine wp_faddr ?_ | refine wp_nilchk ?_ | refine wp_op (o := .mv _) rfl ?_ | refine wp_op (o := .pick _ _ _) rfl ?_ | refine wp_op (o := .extract _ _) rfl ?_)
    refine wp_load1 H (by repeat (first | exact List.Mem.head _ | apply List.Mem.tail)) rfl ?_
    refine wp_callV H (among_ok (H.roSl (by repeat (first | exact List.Mem.head _ | apply List.Mem.tail))) hl) fun S3 H => ?_
    by_cases hm : h[i].id ∈ l
    · rw [decide_eq_true hm]
      refine wp_bind ?_
      repeat (first | refine wp_gop_t ?_ | refine wp_gop_f rfl ?_ | refine wp_gop_u ?_ | refine wp_gcall_t ?_ | refine wp_gcall_f rfl ?_ | refine wp_gcall_u ?_ | refine wp_ite_t ?_ | refine wp_ite_f ?_ | refine wp_faddr ?_ | refine wp_nilchk ?_ | refine wp_op (o := .mv _) rfl ?_ | refine wp_op (o := .pick _ _ _) rfl ?_ | refine wp_op (o := .extract _ _) rfl ?_)
      refine wp_saddr (i := i) H (by repeat (first | exact List.Mem.head _ | apply List.Mem.tail)) (evs_get hlt) fun p off H => ?_
      refine wp_loada H (by repeat (first | exact List.Mem.head _ | apply List.Mem.tail)) (Nat.le_of_ble_eq_true rfl) ?_
      refine wp_push H 0 rfl rfl rfl rfl (by rw [evs_len]; unfold maxBytes; omega) (by rw [evs_len]; unfold maxLenN; omega) fun u1 S4 H => ?_
      refine wp_ret (wp_ret ?_)
      show wp EM _ _ _
      refine wp_add64 (by omega) (by omega) (wp_ret (.inl ⟨rfl, u1, rfl, ?_⟩))
      rw [htk, List.filter_append, evs_append]
      have e : evs (List.filter (fun x => decide (x.id ∈ l)) [h[i]]) = [h[i].cs] := by simp [hm, evs]
      rw [e]
      exact H.tl.tl
    · rw [decide_eq_false hm]
      refine wp_bind ?_
      repeat (first | refine wp_gop_t ?_ | refine wp_gop_f rfl ?_ | refine wp_gop_u ?_ | refine wp_gcall_t ?_ | refine wp_gcall_f rfl ?_ | refine wp_gcall_u ?_ | refine wp_ite_t ?_ | refine wp_ite_f ?_ | refine wp_faddr ?_ | refine wp_nilchk ?_ | refine wp_op (o := .mv _) rfl ?_ | refine wp_op (o := .pick _ _ _) rfl ?_ | refine wp_op (o := .extract _ _) rfl ?_)
      refine wp_ret (wp_ret ?_)
      show wp EM _ _ _
      refine wp_add64 (by omega) (by omega) (wp_ret (.inl ⟨rfl, u, rfl, ?_⟩))
      rw [htk, List.filter_append]
      simpa [hm] using H.tl
  · rintro vs S1 ⟨u, rfl, H⟩
    refine wp_len H (by repeat (first | exact List.Mem.head _ | apply List.Mem.tail)) ?_
    rw [evs_len]
    refine wp_lss_f (by omega) ?_
    repeat (first | refine wp_gop_t ?_ | refine wp_gop_f rfl ?_ | refine wp_gop_u ?_ | refine wp_gcall_t ?_ | refine wp_gcall_f rfl ?_ | refine wp_gcall_u ?_ | refine wp_ite_t ?_ | refine wp_ite_f ?_ | refine wp_faddr ?_ | refine wp_nilchk ?_ | refine wp_op (o := .mv _) rfl ?_ | refine wp_op (o := .pick _ _ _) rfl ?_ | refine wp_op (o := .extract _ _) rfl ?_)
    refine wp_ret ⟨by simp, wp_ret ⟨rfl, ?_⟩⟩
    rw [List.take_length] at H
    exact H.tl.tl
end Go.Abs
namespace Go.Abs
open Go.Proofs
set_option maxRecDepth 100000
theorem und3 : EM.P.underlying 3 = some (.int .i64) := by kernel_rfl
theorem atIx_ge (h : List Evt) (id : Int) (ans : Bool) : -1 ≤ atIx h id ans := by
  unfold atIx
  split <;> omega
theorem atIx_iff {h : List Evt} {id : Int} {ans : Bool} : 0 ≤ atIx h id ans ↔ ∃ x ∈ h, x.id = id ∧ x.ans = ans := by
  unfold atIx
  cases hf : h.findIdx? (fun y => y.id == id && y.ans == ans) with
  | none =>
    rw [List.findIdx?_eq_none_iff] at hf
    constructor
    · intro h0; simp at h0
    · rintro ⟨x, hx, h1, h2⟩
      have := hf x hx
      simp [h1, h2] at this
  | some i =>
    obtain ⟨hi, hp, _⟩ := List.findIdx?_eq_some_iff_getElem.1 hf
    simp only [Bool.and_eq_true, beq_iff_eq] at hp
    constructor
    · intro _; exact ⟨h[i], List.getElem_mem hi, hp⟩
    · intro _; simp
theorem atIx_snoc (p : List Evt) (x : Evt) (id : Int) (ans : Bool) : atIx (p ++ [x]) id ans = if 0 ≤ atIx p id ans then atIx p id ans else if x.id = id ∧ x.ans = ans then (p.length : Int) else -1 := by
  unfold atIx
  rw [List.findIdx?_append]
  cases hf : p.findIdx? (fun y => y.id == id && y.ans == ans) with
  | some i => simp
  | none =>
    simp only [Option.none_or]
    by_cases hx : x.id = id ∧ x.ans = ans
    · simp [hx.1, hx.2]
    · have : (x.id == id && x.ans == ans) = false := by
        cases hb : (x.id == id && x.ans == ans) with
        | false => rfl
        | true => simp only [Bool.and_eq_true, beq_iff_eq] at hb; exact absurd hb hx
      simp [this, hx]

/-- what the diary holds behind some events -/
def Dia (p : List Evt) (d : List (Int × AV)) : Prop :=
  (∀ id, mget d id = if 0 ≤ atIx p id false then some (.agg [I (atIx p id false), I (atIx p id true)]) else none) ∧ ∀ id, 0 ≤ atIx p id true → 0 ≤ atIx p id false
def noted' (p : List Evt) (x : Evt) : AV := if x.ans = true then .agg [I (atIx p x.id false), I (p.length : Int)] else .agg [I (p.length : Int), I (-1)]
theorem Dia.step {p : List Evt} {d : List (Int × AV)} {x : Evt} (h : Dia p d) (he : errAt p x = 0) : Dia (p ++ [x]) (mset d x.id (noted' p x)) := by
  unfold errAt at he
  split at he
  · cases he
  · rename_i h8
    split at he
    · cases he
    · rename_i h10
      obtain ⟨h1, h2⟩ := h
      constructor
      · intro id
        rw [mget_mset, atIx_snoc, atIx_snoc]
        by_cases e : x.id = id
        · subst e
          rw [if_pos rfl]
          unfold noted'
          cases ha : x.ans with
          | true =>
            rw [ha] at h8 h10
            have hf : 0 ≤ atIx p x.id false := by
              by_cases hf : 0 ≤ atIx p x.id false
              · exact hf
              · exact absurd ⟨rfl, by omega⟩ h10
            simp [hf, h8]
          | false =>
            rw [ha] at h8
            have ht : ¬ 0 ≤ atIx p x.id true := fun ht => h8 (h2 _ ht)
            simp [h8, ht]
        · rw [if_neg e, h1]
          by_cases hf : 0 ≤ atIx p id false
          · simp only [hf, if_true, e, false_and, if_false]
            by_cases ht : 0 ≤ atIx p id true
            · simp [ht]
            · have := atIx_ge p id true
              have : atIx p id true = -1 := by omega
              simp [this]
          · simp [hf, e]
      · intro id
        rw [atIx_snoc, atIx_snoc]
        intro ht
        by_cases hf : 0 ≤ atIx p id false
        · simp [hf]
        · have hnt : ¬ 0 ≤ atIx p id true := fun h => hf (h2 id h)
          rw [if_neg hnt] at ht
          by_cases hx : x.id = id ∧ x.ans = true
          · exfalso
            obtain ⟨rfl, ha⟩ := hx
            exact h10 ⟨ha, by have := atIx_ge p x.id false; omega⟩
          · rw [if_neg hx] at ht; omega

def tw (p : List Evt) (x : Evt) : Int := if 0 ≤ atIx p x.id false ∧ (x.ans = false ∨ 0 ≤ atIx p x.id true) then 8 else 0
def ea (p : List Evt) (x : Evt) : Int := if x.ans = true ∧ atIx p x.id false < 0 then 10 else 0
theorem tw_ea {p : List Evt} {d : List (Int × AV)} (h : Dia p d) (x : Evt) : errAt p x = if tw p x ≠ 0 then tw p x else ea p x := by
  unfold errAt tw ea
  cases ha : x.ans with
  | true =>
    by_cases ht : 0 ≤ atIx p x.id true
    · have := h.2 _ ht
      simp [ht, this]
    · by_cases hf : 0 ≤ atIx p x.id false
      · have : ¬ atIx p x.id false < 0 := by omega
        simp [ht, this]
      · have : atIx p x.id false < 0 := by omega
        simp [ht, hf, this]
  | false =>
    by_cases hf : 0 ≤ atIx p x.id false
    · simp [hf]
    · simp [hf]

theorem cx_map {S : AH} {id : Nat} {d : List (Int × AV)} (hg : S.get id = some (.map (ment d))) (hid : id < S.next) : Cx S [] S [] [.ob id (.map (ment d))] := Cx.enter (by
  intro φ hφ
  simp only [List.mem_singleton] at hφ
  subst hφ
  exact ⟨hg, fun j hj => by simp only [Fct.ids, List.mem_singleton] at hj; subst hj; exact hid⟩)

theorem twice_ok {S : AH} {id : Nat} {p : List Evt} {d : List (Int × AV)} {x : Evt} (hg : S.get id = some (.map (ment d))) (hid : id < S.next) (hd : Dia p d) :
    wpC EM (.fn (.func 37) [.map id] []) [.agg x.cs] S fun r S' => r = I (tw p x) ∧ Grows S S' := by
  refine wpC_fn (b := Try.a37) rfl rfl ?_
  have H := cx_map hg hid
  unfold Try.a37 tw
  refine wp_box H rfl fun b S1 H => ?_
  repeat (first | refine wp_gop_t ?_ | refine wp_gop_f rfl ?_ | refine wp_gop_u ?_ | refine wp_gcall_t ?_ | refine wp_gcall_f rfl ?_ | refine wp_gcall_u ?_ | refine wp_ite_t ?_ | refine wp_ite_f ?_ | refine wp_faddr ?_ | refine wp_nilchk ?_ | refine wp_op (o := .mv _) rfl ?_ | refine wp_op (o := .pick _ _ _) rfl ?_ | refine wp_op (o := .extract _ _) rfl ?_)
  refine wp_load1 H (by repeat (first | exact List.Mem.head _ | apply List.Mem.tail)) rfl ?_
  refine wp_lookupR2 H und3 (by repeat (first | exact List.Mem.head _ | apply List.Mem.tail)) ?_
  repeat (first | refine wp_gop_t ?_ | refine wp_gop_f rfl ?_ | refine wp_gop_u ?_ | refine wp_gcall_t ?_ | refine wp_gcall_f rfl ?_ | refine wp_gcall_u ?_ | refine wp_ite_t ?_ | refine wp_ite_f ?_ | refine wp_faddr ?_ | refine wp_nilchk ?_ | refine wp_op (o := .mv _) rfl ?_ | refine wp_op (o := .pick _ _ _) rfl ?_ | refine wp_op (o := .extract _ _) rfl ?_)
  rw [hd.1 x.id]
  by_cases hf : 0 ≤ atIx p x.id false
  · rw [if_pos hf]
    refine wp_alloc H fun s S2 H => ?_
    refine wp_store H 0 rfl rfl rfl (Nat.le_of_ble_eq_true rfl) fun S3 H => ?_
    repeat (first | refine wp_gop_t ?_ | refine wp_gop_f rfl ?_ | refine wp_gop_u ?_ | refine wp_gcall_t ?_ | refine wp_gcall_f rfl ?_ | refine wp_gcall_u ?_ | refine wp_ite_t ?_ | refine wp_ite_f ?_ | refine wp_faddr ?_ | refine wp_nilchk ?_ | refine wp_op (o := .mv _) rfl ?_ | refine wp_op (o := .pick _ _ _) rfl ?_ | refine wp_op (o := .extract _ _) rfl ?_)
    refine wp_load1 H (by repeat (first | exact List.Mem.head _ | apply List.Mem.tail)) rfl ?_
    repeat (first | refine wp_gop_t ?_ | refine wp_gop_f rfl ?_ | refine wp_gop_u ?_ | refine wp_gcall_t ?_ | refine wp_gcall_f rfl ?_ | refine wp_gcall_u ?_ | refine wp_ite_t ?_ | refine wp_ite_f ?_ | refine wp_faddr ?_ | refine wp_nilchk ?_ | refine wp_op (o := .mv _) rfl ?_ | refine wp_op (o := .pick _ _ _) rfl ?_ | refine wp_op (o := .extract _ _) rfl ?_)
    refine wp_not ?_
    repeat (first | refine wp_gop_t ?_ | refine wp_gop_f rfl ?_ | refine wp_gop_u ?_ | refine wp_gcall_t ?_ | refine wp_gcall_f rfl ?_ | refine wp_gcall_u ?_ | refine wp_ite_t ?_ | refine wp_ite_f ?_ | refine wp_faddr ?_ | refine wp_nilchk ?_ | refine wp_op (o := .mv _) rfl ?_ | refine wp_op (o := .pick _ _ _) rfl ?_ | refine wp_op (o := .extract _ _) rfl ?_)
    cases ha : x.ans with
    | false =>
      repeat (first | refine wp_gop_t ?_ | refine wp_gop_f rfl ?_ | refine wp_gop_u ?_ | refine wp_gcall_t ?_ | refine wp_gcall_f rfl ?_ | refine wp_gcall_u ?_ | refine wp_ite_t ?_ | refine wp_ite_f ?_ | refine wp_faddr ?_ | refine wp_nilchk ?_ | refine wp_op (o := .mv _) rfl ?_ | refine wp_op (o := .pick _ _ _) rfl ?_ | refine wp_op (o := .extract _ _) rfl ?_)
      refine wp_ret ⟨rfl, ?_, H.grows⟩
      rw [if_pos ⟨hf, .inl rfl⟩]; rfl
    | true =>
      repeat (first | refine wp_gop_t ?_ | refine wp_gop_f rfl ?_ | refine wp_gop_u ?_ | refine wp_gcall_t ?_ | refine wp_gcall_f rfl ?_ | refine wp_gcall_u ?_ | refine wp_ite_t ?_ | refine wp_ite_f ?_ | refine wp_faddr ?_ | refine wp_nilchk ?_ | refine wp_op (o := .mv _) rfl ?_ | refine wp_op (o := .pick _ _ _) rfl ?_ | refine wp_op (o := .extract _ _) rfl ?_)
      refine wp_loado H 0 rfl rfl ?_
      repeat (first | refine wp_gop_t ?_ | refine wp_gop_f rfl ?_ | refine wp_gop_u ?_ | refine wp_gcall_t ?_ | refine wp_gcall_f rfl ?_ | refine wp_gcall_u ?_ | refine wp_ite_t ?_ | refine wp_ite_f ?_ | refine wp_faddr ?_ | refine wp_nilchk ?_ | refine wp_op (o := .mv _) rfl ?_ | refine wp_op (o := .pick _ _ _) rfl ?_ | refine wp_op (o := .extract _ _) rfl ?_)
      refine wp_geq (fun h0 => ?_) (fun h0 => ?_)
      · repeat (first | refine wp_gop_t ?_ | refine wp_gop_f rfl ?_ | refine wp_gop_u ?_ | refine wp_gcall_t ?_ | refine wp_gcall_f rfl ?_ | refine wp_gcall_u ?_ | refine wp_ite_t ?_ | refine wp_ite_f ?_ | refine wp_faddr ?_ | refine wp_nilchk ?_ | refine wp_op (o := .mv _) rfl ?_ | refine wp_op (o := .pick _ _ _) rfl ?_ | refine wp_op (o := .extract _ _) rfl ?_)
        refine wp_ret ⟨rfl, ?_, H.grows⟩
        rw [if_pos ⟨hf, .inr h0⟩]; rfl
      · repeat (first | refine wp_gop_t ?_ | refine wp_gop_f rfl ?_ | refine wp_gop_u ?_ | refine wp_gcall_t ?_ | refine wp_gcall_f rfl ?_ | refine wp_gcall_u ?_ | refine wp_ite_t ?_ | refine wp_ite_f ?_ | refine wp_faddr ?_ | refine wp_nilchk ?_ | refine wp_op (o := .mv _) rfl ?_ | refine wp_op (o := .pick _ _ _) rfl ?_ | refine wp_op (o := .extract _ _) rfl ?_)
        refine wp_ret ⟨rfl, ?_, H.grows⟩
        rw [if_neg (by simp; omega)]; rfl
  · rw [if_neg hf]
    refine wp_alloc H fun s S2 H => ?_
    refine wp_store H 0 rfl rfl rfl (Nat.le_of_ble_eq_true rfl) fun S3 H => ?_
    repeat (first | refine wp_gop_t ?_ | refine wp_gop_f rfl ?_ | refine wp_gop_u ?_ | refine wp_gcall_t ?_ | refine wp_gcall_f rfl ?_ | refine wp_gcall_u ?_ | refine wp_ite_t ?_ | refine wp_ite_f ?_ | refine wp_faddr ?_ | refine wp_nilchk ?_ | refine wp_op (o := .mv _) rfl ?_ | refine wp_op (o := .pick _ _ _) rfl ?_ | refine wp_op (o := .extract _ _) rfl ?_)
    refine wp_ret ⟨rfl, ?_, H.grows⟩
    rw [if_neg (fun e => hf e.1)]; rfl

theorem early_ok {S : AH} {id : Nat} {p : List Evt} {d : List (Int × AV)} {x : Evt} (hg : S.get id = some (.map (ment d))) (hid : id < S.next) (hd : Dia p d) :
    wpC EM (.fn (.func 38) [.map id] []) [.agg x.cs] S fun r S' => r = I (ea p x) ∧ Grows S S' := by
  refine wpC_fn (b := Try.a38) rfl rfl ?_
  have H := cx_map hg hid
  unfold Try.a38 ea
  refine wp_box H rfl fun b S1 H => ?_
  repeat (first | refine wp_gop_t ?_ | refine wp_gop_f rfl ?_ | refine wp_gop_u ?_ | refine wp_gcall_t ?_ | refine wp_gcall_f rfl ?_ | refine wp_gcall_u ?_ | refine wp_ite_t ?_ | refine wp_ite_f ?_ | refine wp_faddr ?_ | refine wp_nilchk ?_ | refine wp_op (o := .mv _) rfl ?_ | refine wp_op (o := .pick _ _ _) rfl ?_ | refine wp_op (o := .extract _ _) rfl ?_)
  refine wp_load1 H (by repeat (first | exact List.Mem.head _ | apply List.Mem.tail)) rfl ?_
  refine wp_lookupR2 H und3 (by repeat (first | exact List.Mem.head _ | apply List.Mem.tail)) ?_
  repeat (first | refine wp_gop_t ?_ | refine wp_gop_f rfl ?_ | refine wp_gop_u ?_ | refine wp_gcall_t ?_ | refine wp_gcall_f rfl ?_ | refine wp_gcall_u ?_ | refine wp_ite_t ?_ | refine wp_ite_f ?_ | refine wp_faddr ?_ | refine wp_nilchk ?_ | refine wp_op (o := .mv _) rfl ?_ | refine wp_op (o := .pick _ _ _) rfl ?_ | refine wp_op (o := .extract _ _) rfl ?_)
  rw [hd.1 x.id]
  by_cases hf : 0 ≤ atIx p x.id false
  · rw [if_pos hf]
    refine wp_alloc H fun s S2 H => ?_
    refine wp_store H 0 rfl rfl rfl (Nat.le_of_ble_eq_true rfl) fun S3 H => ?_
    repeat (first | refine wp_gop_t ?_ | refine wp_gop_f rfl ?_ | refine wp_gop_u ?_ | refine wp_gcall_t ?_ | refine wp_gcall_f rfl ?_ | refine wp_gcall_u ?_ | refine wp_ite_t ?_ | refine wp_ite_f ?_ | refine wp_faddr ?_ | refine wp_nilchk ?_ | refine wp_op (o := .mv _) rfl ?_ | refine wp_op (o := .pick _ _ _) rfl ?_ | refine wp_op (o := .extract _ _) rfl ?_)
    refine wp_load1 H (by repeat (first | exact List.Mem.head _ | apply List.Mem.tail)) rfl ?_
    rw [if_neg (by omega)]
    cases ha : x.ans with
    | false =>
      repeat (first | refine wp_gop_t ?_ | refine wp_gop_f rfl ?_ | refine wp_gop_u ?_ | refine wp_gcall_t ?_ | refine wp_gcall_f rfl ?_ | refine wp_gcall_u ?_ | refine wp_ite_t ?_ | refine wp_ite_f ?_ | refine wp_faddr ?_ | refine wp_nilchk ?_ | refine wp_op (o := .mv _) rfl ?_ | refine wp_op (o := .pick _ _ _) rfl ?_ | refine wp_op (o := .extract _ _) rfl ?_)
      exact wp_ret ⟨rfl, rfl, H.grows⟩
    | true =>
      repeat (first | refine wp_gop_t ?_ | refine wp_gop_f rfl ?_ | refine wp_gop_u ?_ | refine wp_gcall_t ?_ | refine wp_gcall_f rfl ?_ | refine wp_gcall_u ?_ | refine wp_ite_t ?_ | refine wp_ite_f ?_ | refine wp_faddr ?_ | refine wp_nilchk ?_ | refine wp_op (o := .mv _) rfl ?_ | refine wp_op (o := .pick _ _ _) rfl ?_ | refine wp_op (o := .extract _ _) rfl ?_)
      refine wp_not ?_
      repeat (first | refine wp_gop_t ?_ | refine wp_gop_f rfl ?_ | refine wp_gop_u ?_ | refine wp_gcall_t ?_ | refine wp_gcall_f rfl ?_ | refine wp_gcall_u ?_ | refine wp_ite_t ?_ | refine wp_ite_f ?_ | refine wp_faddr ?_ | refine wp_nilchk ?_ | refine wp_op (o := .mv _) rfl ?_ | refine wp_op (o := .pick _ _ _) rfl ?_ | refine wp_op (o := .extract _ _) rfl ?_)
      exact wp_ret ⟨rfl, rfl, H.grows⟩
  · rw [if_neg hf]
    refine wp_alloc H fun s S2 H => ?_
    refine wp_store H 0 rfl rfl rfl (Nat.le_of_ble_eq_true rfl) fun S3 H => ?_
    repeat (first | refine wp_gop_t ?_ | refine wp_gop_f rfl ?_ | refine wp_gop_u ?_ | refine wp_gcall_t ?_ | refine wp_gcall_f rfl ?_ | refine wp_gcall_u ?_ | refine wp_ite_t ?_ | refine wp_ite_f ?_ | refine wp_faddr ?_ | refine wp_nilchk ?_ | refine wp_op (o := .mv _) rfl ?_ | refine wp_op (o := .pick _ _ _) rfl ?_ | refine wp_op (o := .extract _ _) rfl ?_)
    refine wp_load1 H (by repeat (first | exact List.Mem.head _ | apply List.Mem.tail)) rfl ?_
    cases ha : x.ans with
    | false =>
      repeat (first | refine wp_gop_t ?_ | refine wp_gop_f rfl ?_ | refine wp_gop_u ?_ | refine wp_gcall_t ?_ | refine wp_gcall_f rfl ?_ | refine wp_gcall_u ?_ | refine wp_ite_t ?_ | refine wp_ite_f ?_ | refine wp_faddr ?_ | refine wp_nilchk ?_ | refine wp_op (o := .mv _) rfl ?_ | refine wp_op (o := .pick _ _ _) rfl ?_ | refine wp_op (o := .extract _ _) rfl ?_)
      exact wp_ret ⟨rfl, rfl, H.grows⟩
    | true =>
      repeat (first | refine wp_gop_t ?_ | refine wp_gop_f rfl ?_ | refine wp_gop_u ?_ | refine wp_gcall_t ?_ | refine wp_gcall_f rfl ?_ | refine wp_gcall_u ?_ | refine wp_ite_t ?_ | refine wp_ite_f ?_ | refine wp_faddr ?_ | refine wp_nilchk ?_ | refine wp_op (o := .mv _) rfl ?_ | refine wp_op (o := .pick _ _ _) rfl ?_ | refine wp_op (o := .extract _ _) rfl ?_)
      refine wp_not ?_
      repeat (first | refine wp_gop_t ?_ | refine wp_gop_f rfl ?_ | refine wp_gop_u ?_ | refine wp_gcall_t ?_ | refine wp_gcall_f rfl ?_ | refine wp_gcall_u ?_ | refine wp_ite_t ?_ | refine wp_ite_f ?_ | refine wp_faddr ?_ | refine wp_nilchk ?_ | refine wp_op (o := .mv _) rfl ?_ | refine wp_op (o := .pick _ _ _) rfl ?_ | refine wp_op (o := .extract _ _) rfl ?_)
      refine wp_ret ⟨rfl, ?_, H.grows⟩
      rw [if_pos ⟨rfl, by omega⟩]; rfl
end Go.Abs
namespace Go.Abs
open Go.Proofs
set_option maxRecDepth 100000
theorem errAt_cases (p : List Evt) (x : Evt) : errAt p x = 8 ∨ errAt p x = 10 ∨ errAt p x = 0 := by
  unfold errAt
  split
  · exact .inl rfl
  · split
    · exact .inr (.inl rfl)
    · exact .inr (.inr rfl)
/-- the two things that are asked -/
def asks (id : Nat) : List (List AV) := [[.fn (.func 37) [.map id] []], [.fn (.func 38) [.map id] []]]

theorem read_ok {S : AH} {v : AV} {h : List Evt} (hv : RoSl S v 9 (evs h)) : wpC EM (.fn (.func 33) [] []) [v] S fun r S' =>
    (chk h ≠ 0 → r = .tup [Nm, I (chk h)] ∧ Grows S S') ∧ (chk h = 0 → ∃ id d, r = .tup [.map id, I 0] ∧ Dia h d ∧ Cx S [] S' [.obj id (.map (ment d))] []) := by
  refine wpC_fn (b := Try.a33) rfl rfl ?_
  have H := Cx.ro1 hv
  unfold Try.a33
  refine wp_len H (by repeat (first | exact List.Mem.head _ | apply List.Mem.tail)) ?_
  rw [evs_len]
  refine wp_gtr (fun hlt => ?_) (fun hge => ?_)
  · repeat (first | refine wp_gop_t ?_ | refine wp_gop_f rfl ?_ | refine wp_gop_u ?_ | refine wp_gcall_t ?_ | refine wp_gcall_f rfl ?_ | refine wp_gcall_u ?_ | refine wp_ite_t ?_ | refine wp_ite_f ?_ | refine wp_faddr ?_ | refine wp_nilchk ?_ | refine wp_op (o := .mv _) rfl ?_ | refine wp_op (o := .pick _ _ _) rfl ?_ | refine wp_op (o := .extract _ _) rfl ?_)
    have e : chk h = 4 := by unfold chk; rw [if_pos (by omega)]
    exact wp_ret ⟨rfl, fun _ => ⟨by rw [e]; rfl, H.grows⟩, fun hc => by omega⟩
  have hc0 : chk h = chkN h h.length 0 := by unfold chk; rw [if_neg (by omega)]
  repeat (first | refine wp_gop_t ?_ | refine wp_gop_f rfl ?_ | refine wp_gop_u ?_ | refine wp_gcall_t ?_ | refine wp_gcall_f rfl ?_ | refine wp_gcall_u ?_ | refine wp_ite_t ?_ | refine wp_ite_f ?_ | refine wp_faddr ?_ | refine wp_nilchk ?_ | refine wp_op (o := .mv _) rfl ?_ | refine wp_op (o := .pick _ _ _) rfl ?_ | refine wp_op (o := .extract _ _) rfl ?_)
  refine wp_mkmap H fun id S1 H => ?_
  refine wp_len H (by repeat (first | exact List.Mem.head _ | apply List.Mem.tail)) ?_
  rw [evs_len]
  have d0 : Dia (h.take 0) [] := ⟨fun id => by simp [mget, atIx], fun id => by simp [atIx]⟩
  refine wp_bind (wp_loop (wpL_for h.length (fun i vs S2 => ∃ (u1 u2 u3 : AV) (d : List (Int × AV)), vs = [I (i : Int), u1, u2, u3] ∧ chkN h (h.length - i) i = chk h ∧ Dia (h.take i) d ∧ Cx S [] S2 [.obj id (.map (ment d))] [.sl v 9 (evs h)]) ?_ ?_ ⟨_, _, _, [], rfl, hc0.symm, d0, H⟩))
  · rintro i vs S2 hlt ⟨u1, u2, u3, d, rfl, hc, hd, H⟩
    have hn : h.length - i = (h.length - (i + 1)) + 1 := by omega
    rw [hn, chkN, List.getElem?_eq_getElem hlt] at hc
    simp only at hc
    have htk : h.take (i + 1) = h.take i ++ [h[i]] := List.take_succ_eq_append_getElem hlt
    have hpl : (h.take i).length = i := by rw [List.length_take]; omega
    have herr := tw_ea hd h[i]
    refine wp_lss_t (by omega) ?_
    repeat (first | refine wp_gop_t ?_ | refine wp_gop_f rfl ?_ | refine wp_gop_u ?_ | refine wp_gcall_t ?_ | refine wp_gcall_f rfl ?_ | refine wp_gcall_u ?_ | refine wp_ite_t ?_ | refine wp_ite_f ?_ | refine wp_faddr ?_ | refine wp_nilchk ?_ | refine wp_op (o := .mv _) rfl ?_ | refine wp_op (o := .pick _ _ _) rfl ?_ | refine wp_op (o := .extract _ _) rfl ?_)
    refine wp_bind ?_
    refine wp_saddr (i := i) H (by repeat (first | exact List.Mem.head _ | apply List.Mem.tail)) (evs_get hlt) fun p off H => ?_
    refine wp_loada H (by repeat (first | exact List.Mem.head _ | apply List.Mem.tail)) (Nat.le_of_ble_eq_true rfl) ?_
    refine wp_alloc H fun b S3 H => ?_
    refine wp_store H 0 rfl rfl rfl (Nat.le_of_ble_eq_true rfl) fun S4 H => ?_
    replace H : Cx S [] S4 [.obj id (.map (ment d))] [.pt b 0 h[i].cs, .pt p off h[i].cs, .sl v 9 (evs h)] := H.freeze (i := 0) (c := h[i].cs) rfl
    -- the two questions
    refine wp_op (v := .sl S4.next 0 2 2) (S1 := S4.new (.row [.fn (.func 37) [.map id] [], .fn (.func 38) [.map id] []])) rfl ?_
    replace H : Cx S [] _ [.obj id (.map (ment d))] [.sl (.sl S4.next 0 2 2) 1 (asks id), .pt b 0 h[i].cs, .pt p off h[i].cs, .sl v 9 (evs h)] := H.addNewRo (Grows.new S4 _) (.inr ⟨S4.next, 0, [.fn (.func 37) [.map id] [], .fn (.func 38) [.map id] []], .inl ⟨2, Nat.le_refl _, Nat.le_refl _, rfl⟩, row_cells (get_new_same _ _), rfl, by simp [asks]⟩) (by
      intro j hj
      simp only [Fct.ids, vids, List.mem_singleton] at hj
      subst hj
      simp)
    generalize S4.new (.row [.fn (.func 37) [.map id] [], .fn (.func 38) [.map id] []]) = S5 at H ⊢
    generalize AV.sl S4.next 0 2 2 = qs at H ⊢
    refine wp_len H (by repeat (first | exact List.Mem.head _ | apply List.Mem.tail)) ?_
    refine wp_bind (wp_loop (wpL_for 2 (fun j vs S6 => ∃ w1 w2 : AV, vs = [I (j : Int), w1, w2] ∧ (1 ≤ j → tw (h.take i) h[i] = 0) ∧ (2 ≤ j → ea (h.take i) h[i] = 0) ∧ Cx S [] S6 [.obj id (.map (ment d))] [.sl qs 1 (asks id), .pt b 0 h[i].cs, .pt p off h[i].cs, .sl v 9 (evs h)]) ?_ ?_ ⟨_, _, rfl, by omega, by omega, H⟩))
    · rintro j vs S6 hj ⟨w1, w2, rfl, ht, he, H⟩
      refine wp_lss_t (by show (j : Int) < ((asks id).length : Int); simp [asks]; omega) ?_
      repeat (first | refine wp_gop_t ?_ | refine wp_gop_f rfl ?_ | refine wp_gop_u ?_ | refine wp_gcall_t ?_ | refine wp_gcall_f rfl ?_ | refine wp_gcall_u ?_ | refine wp_ite_t ?_ | refine wp_ite_f ?_ | refine wp_faddr ?_ | refine wp_nilchk ?_ | refine wp_op (o := .mv _) rfl ?_ | refine wp_op (o := .pick _ _ _) rfl ?_ | refine wp_op (o := .extract _ _) rfl ?_)
      refine wp_bind ?_
      have hob : S6.get id = some (.map (ment d)) ∧ id < S6.next := ⟨H.oh _ (List.Mem.head _), (H.oi _ (List.Mem.head _) id (by simp [Own.ids])).1⟩
      have hcase : j = 0 ∨ j = 1 := by omega
      rcases hcase with rfl | rfl
      · refine wp_saddr (i := 0) (x := [.fn (.func 37) [.map id] []]) H (by repeat (first | exact List.Mem.head _ | apply List.Mem.tail)) rfl fun q qo H => ?_
        refine wp_load0 H (by repeat (first | exact List.Mem.head _ | apply List.Mem.tail)) rfl ?_
        refine wp_loada H (cs := h[i].cs) (by repeat (first | exact List.Mem.head _ | apply List.Mem.tail)) (Nat.le_of_ble_eq_true rfl) ?_
        refine wp_callV H (twice_ok hob.1 hob.2 hd) fun S7 H => ?_
        refine wp_neq (fun hne => ?_) (fun heq => ?_)
        · repeat (first | refine wp_gop_t ?_ | refine wp_gop_f rfl ?_ | refine wp_gop_u ?_ | refine wp_gcall_t ?_ | refine wp_gcall_f rfl ?_ | refine wp_gcall_u ?_ | refine wp_ite_t ?_ | refine wp_ite_f ?_ | refine wp_faddr ?_ | refine wp_nilchk ?_ | refine wp_op (o := .mv _) rfl ?_ | refine wp_op (o := .pick _ _ _) rfl ?_ | refine wp_op (o := .extract _ _) rfl ?_)
          refine wp_ret (.inr ⟨by simp, ?_⟩)
          have e1 : errAt (h.take i) h[i] = tw (h.take i) h[i] := by rw [herr, if_pos hne]
          rw [if_neg (by rw [e1]; exact hne), e1] at hc
          exact .inr ⟨by simp, rfl, fun _ => ⟨by rw [← hc]; rfl, H.grows⟩, fun e => absurd (hc.trans e) hne⟩
        · repeat (first | refine wp_gop_t ?_ | refine wp_gop_f rfl ?_ | refine wp_gop_u ?_ | refine wp_gcall_t ?_ | refine wp_gcall_f rfl ?_ | refine wp_gcall_u ?_ | refine wp_ite_t ?_ | refine wp_ite_f ?_ | refine wp_faddr ?_ | refine wp_nilchk ?_ | refine wp_op (o := .mv _) rfl ?_ | refine wp_op (o := .pick _ _ _) rfl ?_ | refine wp_op (o := .extract _ _) rfl ?_)
          refine wp_ret ?_
          show wp EM _ _ _
          exact wp_add64 (by omega) (by omega) (wp_ret (.inl ⟨rfl, _, _, rfl, fun _ => heq, by omega, H.tl⟩))
      · refine wp_saddr (i := 1) (x := [.fn (.func 38) [.map id] []]) H (by repeat (first | exact List.Mem.head _ | apply List.Mem.tail)) rfl fun q qo H => ?_
        refine wp_load0 H (by repeat (first | exact List.Mem.head _ | apply List.Mem.tail)) rfl ?_
        refine wp_loada H (cs := h[i].cs) (by repeat (first | exact List.Mem.head _ | apply List.Mem.tail)) (Nat.le_of_ble_eq_true rfl) ?_
        refine wp_callV H (early_ok hob.1 hob.2 hd) fun S7 H => ?_
        have ht := ht (Nat.le_refl _)
        refine wp_neq (fun hne => ?_) (fun heq => ?_)
        · repeat (first | refine wp_gop_t ?_ | refine wp_gop_f rfl ?_ | refine wp_gop_u ?_ | refine wp_gcall_t ?_ | refine wp_gcall_f rfl ?_ | refine wp_gcall_u ?_ | refine wp_ite_t ?_ | refine wp_ite_f ?_ | refine wp_faddr ?_ | refine wp_nilchk ?_ | refine wp_op (o := .mv _) rfl ?_ | refine wp_op (o := .pick _ _ _) rfl ?_ | refine wp_op (o := .extract _ _) rfl ?_)
          refine wp_ret (.inr ⟨by simp, ?_⟩)
          have e1 : errAt (h.take i) h[i] = ea (h.take i) h[i] := by rw [herr, if_neg (by simp [ht])]
          rw [if_neg (by rw [e1]; exact hne), e1] at hc
          exact .inr ⟨by simp, rfl, fun _ => ⟨by rw [← hc]; rfl, H.grows⟩, fun e => absurd (hc.trans e) hne⟩
        · repeat (first | refine wp_gop_t ?_ | refine wp_gop_f rfl ?_ | refine wp_gop_u ?_ | refine wp_gcall_t ?_ | refine wp_gcall_f rfl ?_ | refine wp_gcall_u ?_ | refine wp_ite_t ?_ | refine wp_ite_f ?_ | refine wp_faddr ?_ | refine wp_nilchk ?_ | refine wp_op (o := .mv _) rfl ?_ | refine wp_op (o := .pick _ _ _) rfl ?_ | refine wp_op (o := .extract _ _) rfl ?_)
          refine wp_ret ?_
          show wp EM _ _ _
          exact wp_add64 (by omega) (by omega) (wp_ret (.inl ⟨rfl, _, _, rfl, fun _ => ht, fun _ => heq, H.tl⟩))
    · rintro vs S6 ⟨w1, w2, rfl, ht, he, H⟩
      have ht := ht (by omega)
      have he := he (by omega)
      have he0 : errAt (h.take i) h[i] = 0 := by rw [herr, if_neg (by simp [ht]), he]
      rw [if_pos he0] at hc
      have hstep := hd.step he0
      rw [← htk] at hstep
      refine wp_lss_f (by show ((asks id).length : Int) ≤ 2; simp [asks]) ?_
      repeat (first | refine wp_gop_t ?_ | refine wp_gop_f rfl ?_ | refine wp_gop_u ?_ | refine wp_gcall_t ?_ | refine wp_gcall_f rfl ?_ | refine wp_gcall_u ?_ | refine wp_ite_t ?_ | refine wp_ite_f ?_ | refine wp_faddr ?_ | refine wp_nilchk ?_ | refine wp_op (o := .mv _) rfl ?_ | refine wp_op (o := .pick _ _ _) rfl ?_ | refine wp_op (o := .extract _ _) rfl ?_)
      refine wp_ret ⟨by simp, ?_⟩
      show wp EM _ _ _
      refine wp_op (v := .agg [I (i : Int), I (-1)]) rfl ?_
      refine wp_alloc H fun s S7 H => ?_
      refine wp_store H 0 rfl rfl rfl (Nat.le_of_ble_eq_true rfl) fun S8 H => ?_
      repeat (first | refine wp_gop_t ?_ | refine wp_gop_f rfl ?_ | refine wp_gop_u ?_ | refine wp_gcall_t ?_ | refine wp_gcall_f rfl ?_ | refine wp_gcall_u ?_ | refine wp_ite_t ?_ | refine wp_ite_f ?_ | refine wp_faddr ?_ | refine wp_nilchk ?_ | refine wp_op (o := .mv _) rfl ?_ | refine wp_op (o := .pick _ _ _) rfl ?_ | refine wp_op (o := .extract _ _) rfl ?_)
      refine wp_load1 H (cs := h[i].cs) (by repeat (first | exact List.Mem.head _ | apply List.Mem.tail)) rfl ?_
      refine wp_bind ?_
      have fin : ∀ S9 c, Cx S [] S9 [.obj s (.row c), .obj id (.map (ment d))] [.sl qs 1 (asks id), .pt b 0 h[i].cs, .pt p off h[i].cs, .sl v 9 (evs h)] → .agg c = noted' (h.take i) h[i] → c.length = 2 → ∀ {Q : Post}, (∀ S10, Cx S [] S10 [.obj s (.row c), .obj id (.map (ment (mset d h[i].id (noted' (h.take i) h[i]))))] [.sl qs 1 (asks id), .pt b 0 h[i].cs, .pt p off h[i].cs, .sl v 9 (evs h)] → Q .normal [w1, w2, I 2] S10) →
          wp EM (.op (.faddr 0 (.ptr b 0)) fun v20 => Try.a33x4 (.map id) [I 2, w1, w2] (.ptr s 0) v20) S9 Q := by
        intro S9 c H hcc hcl Q hQ
        repeat (first | refine wp_gop_t ?_ | refine wp_gop_f rfl ?_ | refine wp_gop_u ?_ | refine wp_gcall_t ?_ | refine wp_gcall_f rfl ?_ | refine wp_gcall_u ?_ | refine wp_ite_t ?_ | refine wp_ite_f ?_ | refine wp_faddr ?_ | refine wp_nilchk ?_ | refine wp_op (o := .mv _) rfl ?_ | refine wp_op (o := .pick _ _ _) rfl ?_ | refine wp_op (o := .extract _ _) rfl ?_)
        refine wp_load1 H (cs := h[i].cs) (by repeat (first | exact List.Mem.head _ | apply List.Mem.tail)) rfl ?_
        refine wp_loadoa H 0 rfl (by omega) ?_
        have e : List.take 2 (List.drop 0 c) = c := by rw [List.drop_zero, List.take_of_length_le (by omega)]
        rw [e, hcc]
        refine wp_mapset H 1 und3 rfl fun S10 H => ?_
        exact wp_ret (hQ S10 H)
      cases ha : h[i].ans with
      | true =>
        repeat (first | refine wp_gop_t ?_ | refine wp_gop_f rfl ?_ | refine wp_gop_u ?_ | refine wp_gcall_t ?_ | refine wp_gcall_f rfl ?_ | refine wp_gcall_u ?_ | refine wp_ite_t ?_ | refine wp_ite_f ?_ | refine wp_faddr ?_ | refine wp_nilchk ?_ | refine wp_op (o := .mv _) rfl ?_ | refine wp_op (o := .pick _ _ _) rfl ?_ | refine wp_op (o := .extract _ _) rfl ?_)
        refine wp_load1 H (cs := h[i].cs) (by repeat (first | exact List.Mem.head _ | apply List.Mem.tail)) rfl ?_
        refine wp_lookup H 1 und3 rfl ?_
        have hf : 0 ≤ atIx (h.take i) h[i].id false := by
          unfold ea at he
          by_cases hf : 0 ≤ atIx (h.take i) h[i].id false
          · exact hf
          · rw [if_pos ⟨ha, by omega⟩] at he; cases he
        rw [hd.1, if_pos hf]
        refine wp_op (v := I (atIx (h.take i) h[i].id false)) rfl ?_
        refine wp_op (v := .agg [I (atIx (h.take i) h[i].id false), I (i : Int)]) rfl ?_
        refine wp_store H 0 rfl rfl rfl (Nat.le_of_ble_eq_true rfl) fun S9 H => ?_
        refine wp_ret (fin S9 [I (atIx (h.take i) h[i].id false), I (i : Int)] H ?_ rfl fun S10 H => ?_)
        · unfold noted'; rw [if_pos ha, hpl]
        · show wp EM _ _ _
          exact wp_add64 (by omega) (by omega) (wp_ret (.inl ⟨rfl, _, _, _, _, rfl, hc, hstep, (H.dropOwn (own' := [.obj id (.map (ment (mset d h[i].id (noted' (h.take i) h[i]))))]) (List.sublist_cons_self _ _)).tl.tl.tl⟩))
      | false =>
        repeat (first | refine wp_gop_t ?_ | refine wp_gop_f rfl ?_ | refine wp_gop_u ?_ | refine wp_gcall_t ?_ | refine wp_gcall_f rfl ?_ | refine wp_gcall_u ?_ | refine wp_ite_t ?_ | refine wp_ite_f ?_ | refine wp_faddr ?_ | refine wp_nilchk ?_ | refine wp_op (o := .mv _) rfl ?_ | refine wp_op (o := .pick _ _ _) rfl ?_ | refine wp_op (o := .extract _ _) rfl ?_)
        refine wp_ret (fin S8 [I (i : Int), I (-1)] H ?_ rfl fun S10 H => ?_)
        · unfold noted'; rw [if_neg (by simp [ha]), hpl]
        · show wp EM _ _ _
          exact wp_add64 (by omega) (by omega) (wp_ret (.inl ⟨rfl, _, _, _, _, rfl, hc, hstep, (H.dropOwn (own' := [.obj id (.map (ment (mset d h[i].id (noted' (h.take i) h[i]))))]) (List.sublist_cons_self _ _)).tl.tl.tl⟩))
  · rintro vs S2 ⟨u1, u2, u3, d, rfl, hc, hd, H⟩
    refine wp_lss_f (by omega) ?_
    repeat (first | refine wp_gop_t ?_ | refine wp_gop_f rfl ?_ | refine wp_gop_u ?_ | refine wp_gcall_t ?_ | refine wp_gcall_f rfl ?_ | refine wp_gcall_u ?_ | refine wp_ite_t ?_ | refine wp_ite_f ?_ | refine wp_faddr ?_ | refine wp_nilchk ?_ | refine wp_op (o := .mv _) rfl ?_ | refine wp_op (o := .pick _ _ _) rfl ?_ | refine wp_op (o := .extract _ _) rfl ?_)
    rw [Nat.sub_self] at hc
    rw [List.take_length] at hd
    exact wp_ret ⟨by simp, wp_ret ⟨rfl, fun e => absurd hc.symm e, fun _ => ⟨id, d, rfl, hd, H.tl⟩⟩⟩
end Go.Abs
