/- functions of this cut: what they compute, in the abstract machine. Conditions: stated in each theorem -/
import Derived.Test.YtmbabkepakhkiaaE2
set_option linter.unusedVariables false
set_option linter.unusedSimpArgs false
namespace Go.Abs
open Go.Proofs
set_option maxRecDepth 100000
/-! ### who is ahead: an order, as of intervals -/
/-- is the a-th span ahead of the b-th? -/
def ahd (h : List Evt) (p q : Evt × Nat) : Bool := decide (0 ≤ atIx h p.1.id true ∧ atIx h p.1.id true < (q.2 : Int))
theorem callsN_at {h : List Evt} {p : Evt × Nat} (hp : p ∈ callsN h h.length) : ∃ hj : p.2 < h.length, h[p.2] = p.1 ∧ p.1.ans = false := by
  have hmem : ∀ n, n ≤ h.length → p ∈ callsN h n → ∃ hj : p.2 < h.length, h[p.2] = p.1 ∧ p.1.ans = false := by
    intro n
    induction n with
    | zero => intro _ h; simp [callsN] at h
    | succ n ih =>
      intro hn hm
      have hlt : n < h.length := by omega
      rw [callsN_succ hlt] at hm
      cases ha : h[n].ans with
      | true => rw [ha] at hm; exact ih (by omega) (by simpa using hm)
      | false =>
        rw [ha] at hm
        simp only [Bool.false_eq_true, if_false, List.mem_append, List.mem_singleton] at hm
        rcases hm with hm | rfl
        · exact ih (by omega) hm
        · exact ⟨hlt, rfl, ha⟩
  exact hmem _ (Nat.le_refl _) hp
/-- an answer stands behind its call -/
theorem from_lt {h : List Evt} (hv : Valid h) {p : Evt × Nat} (hp : p ∈ callsN h h.length) (h0 : 0 ≤ atIx h p.1.id true) : (p.2 : Int) < atIx h p.1.id true := by
  obtain ⟨hj, he, ha⟩ := callsN_at hp
  unfold atIx at h0 ⊢
  cases hf : h.findIdx? (fun y => y.id == p.1.id && y.ans == true) with
  | none => rw [hf] at h0; simp at h0
  | some i =>
    obtain ⟨hi, hpi, _⟩ := List.findIdx?_eq_some_iff_getElem.1 hf
    simp only [Bool.and_eq_true, beq_iff_eq] at hpi
    simp only
    obtain ⟨y, hy, e1, e2⟩ := hv.2 (h.take i) h[i] (h.drop (i + 1)) (by rw [List.getElem_cons_drop, List.take_append_drop]) hpi.2
    obtain ⟨j, hjl, rfl⟩ := List.mem_iff_getElem.1 hy
    rw [List.length_take] at hjl
    simp only [List.getElem_take] at e1 e2
    -- that call is this one
    have hw := hv.1
    rw [List.pairwise_iff_getElem] at hw
    by_cases e : j = p.2
    · omega
    · exfalso
      rcases Nat.lt_or_gt_of_ne e with hlt | hgt
      · exact hw j p.2 (by omega) hj hlt ⟨by rw [he, e1, hpi.1], by rw [he, e2, ha]⟩
      · exact hw p.2 j hj (by omega) hgt ⟨by rw [he, e1, hpi.1], by rw [he, e2, ha]⟩
theorem ahd_irr {h : List Evt} (hv : Valid h) {p : Evt × Nat} (hp : p ∈ callsN h h.length) : ahd h p p = false := by
  unfold ahd
  refine decide_eq_false fun ⟨h0, h1⟩ => ?_
  have := from_lt hv hp h0
  omega
theorem ahd_asym {h : List Evt} (hv : Valid h) {p q : Evt × Nat} (hp : p ∈ callsN h h.length) (hq : q ∈ callsN h h.length) (h1 : ahd h p q = true) : ahd h q p = false := by
  unfold ahd at h1 ⊢
  obtain ⟨a1, a2⟩ := of_decide_eq_true h1
  refine decide_eq_false fun ⟨b1, b2⟩ => ?_
  have := from_lt hv hp a1
  have := from_lt hv hq b1
  omega
theorem ahd_trans {h : List Evt} (hv : Valid h) {p q r : Evt × Nat} (hq : q ∈ callsN h h.length) (h1 : ahd h p q = true) (h2 : ahd h q r = true) : ahd h p r = true := by
  unfold ahd at h1 h2 ⊢
  obtain ⟨a1, a2⟩ := of_decide_eq_true h1
  obtain ⟨b1, b2⟩ := of_decide_eq_true h2
  have := from_lt hv hq b1
  exact decide_eq_true ⟨a1, by omega⟩
theorem ahd_four {h : List Evt} {p q r s : Evt × Nat} (h1 : ahd h p q = true) (h2 : ahd h r s = true) (h3 : ahd h p s = false) : ahd h r q = true := by
  unfold ahd at h1 h2 h3 ⊢
  obtain ⟨a1, a2⟩ := of_decide_eq_true h1
  obtain ⟨b1, b2⟩ := of_decide_eq_true h2
  have h3 := of_decide_eq_false h3
  refine decide_eq_true ⟨b1, ?_⟩
  omega

section
variable {B0 S : AH} {W : List Nat} {own : List Own} {ro : List Fct} {Q : Post} {k : AV → AC} {h : List Evt} {s : AV} {L : List (Evt × Nat)}
/-- one span, loaded -/
theorem wp_span (H : Cx B0 W S own ro) (hm : Fct.sl s 10 (L.map (spc h)) ∈ ro) {i : Nat} (hi : i < L.length) (hk : wp EM (k (.agg (spc h L[i]))) S Q) : wp EM (.op (.saddr 10 s (I (i : Int))) fun p => .op (.load 10 true p) k) S Q := by
  obtain ⟨id, off, h1, h2, h3⟩ := slOk_elem (M := EM) (H.rh _ hm) (i := i) (x := spc h L[i]) (by simp [hi])
  have hl : (spc h L[i]).length = 10 := spanCs_len h _ _
  obtain ⟨c, g1, g2, g3⟩ := pt_agg (j := 0) (n := 10) h2 (by omega)
  rw [Nat.add_zero] at g2 g3
  rw [List.drop_zero, List.take_of_length_le (by omega : (spc h L[i]).length ≤ 10)] at g3
  exact wp_op h1 (wp_op (e_loadn g1 g2) (g3 ▸ hk))
/-- the question who is ahead -/
theorem wp_ahead (H : Cx B0 W S own ro) {p q : Evt × Nat} (hk : ∀ S1, Cx B0 W S1 own ro → wp EM (k (B (ahd h p q))) S1 Q) : wp EM (.call (.fn (.func 32) [] []) [.agg (spc h p), .agg (spc h q)] k) S Q :=
  wp_callV H (ahead_ok (a := atIx h p.1.id true) (b := (q.2 : Int)) (spanCs_len h _ _) (spanCs_len h _ _) rfl rfl) hk
end
end Go.Abs
namespace Go.Abs
open Go.Proofs
set_option maxRecDepth 100000
section
variable {S : AH} {h : List Evt} {s : AV} {L : List (Evt × Nat)}
abbrev Ctx (S S1 : AH) (s : AV) (h : List Evt) (L : List (Evt × Nat)) : Prop := Cx S [] S1 [] [.sl s 10 (L.map (spc h))]
/-- a span, where its place is known -/
theorem wp_sp1 {Q : Post} {k : AV → AC} {S1 : AH} (H : Ctx S S1 s h L) {i : Nat} (hi : i < L.length) (hk : ∀ p off, (Fct.pt p off (spc h L[i])).holds S1 → wp EM (k (.ptr p off)) S1 Q) : wp EM (.op (.saddr 10 s (I (i : Int))) k) S1 Q := by
  obtain ⟨id, off, h1, h2, h3⟩ := slOk_elem (M := EM) (H.rh _ (List.Mem.head _)) (i := i) (x := spc h L[i]) (by simp [hi])
  exact wp_op h1 (hk id off h2)
theorem wp_sp2 {Q : Post} {k : AV → AC} {S1 : AH} {p : Evt × Nat} {id off : Nat} (hp : (Fct.pt id off (spc h p)).holds S1) (hk : wp EM (k (.agg (spc h p))) S1 Q) : wp EM (.op (.load 10 true (.ptr id off)) k) S1 Q := by
  have hl : (spc h p).length = 10 := spanCs_len h _ _
  obtain ⟨c, g1, g2, g3⟩ := pt_agg (j := 0) (n := 10) hp (by omega)
  rw [Nat.add_zero] at g2 g3
  rw [List.drop_zero, List.take_of_length_le (by omega : (spc h p).length ≤ 10)] at g3
  exact wp_op (e_loadn g1 g2) (g3 ▸ hk)

/-- the innermost rounds -/
theorem order_d (hL : L.length ≤ 100) {S1 : AH} {a b c : Nat} (ha : a < L.length) (hb : b < L.length) (hc : c < L.length) (hab : ahd h L[a] L[b] = true) {x1 x2 x3 x4 y1 y2 y3 z1 z2 : AV} (H : Ctx S S1 s h L) :
    wp EM (Try.a7x9 s [I (a : Int), x1, x2, x3, x4] [I (b : Int), y1, y2, y3] [I (c : Int), z1, z2]) S1 fun t vs S2 => t = .normal ∧ (∃ u1 u2, vs = [u1, u2]) ∧ Ctx S S2 s h L := by
  unfold Try.a7x9
  refine wp_bind (wp_loop (wpL_for L.length (fun d vs S2 => ∃ u, vs = [I (d : Int), u] ∧ Ctx S S2 s h L) ?_ ?_ ⟨_, rfl, H⟩))
  · rintro d vs S2 hd ⟨u, rfl, H⟩
    refine wp_len H (by repeat (first | exact List.Mem.head _ | apply List.Mem.tail)) ?_
    rw [List.length_map]
    refine wp_lss_t (by omega) ?_
    repeat (first | refine wp_gop_t ?_ | refine wp_gop_f rfl ?_ | refine wp_gop_u ?_ | refine wp_gcall_t ?_ | refine wp_gcall_f rfl ?_ | refine wp_gcall_u ?_ | refine wp_ite_t ?_ | refine wp_ite_f ?_ | refine wp_faddr ?_ | refine wp_nilchk ?_ | refine wp_op (o := .mv _) rfl ?_ | refine wp_op (o := .pick _ _ _) rfl ?_ | refine wp_op (o := .extract _ _) rfl ?_)
    refine wp_bind ?_
    refine wp_sp1 H hc fun _ _ hp => ?_
    refine wp_sp2 hp ?_
    refine wp_sp1 H hd fun _ _ hp => ?_
    refine wp_sp2 hp ?_
    refine wp_ahead H fun S3 H => ?_
    cases hcd : ahd h L[c] L[d] with
    | false =>
      repeat (first | refine wp_gop_t ?_ | refine wp_gop_f rfl ?_ | refine wp_gop_u ?_ | refine wp_gcall_t ?_ | refine wp_gcall_f rfl ?_ | refine wp_gcall_u ?_ | refine wp_ite_t ?_ | refine wp_ite_f ?_ | refine wp_faddr ?_ | refine wp_nilchk ?_ | refine wp_op (o := .mv _) rfl ?_ | refine wp_op (o := .pick _ _ _) rfl ?_ | refine wp_op (o := .extract _ _) rfl ?_)
      refine wp_ret ?_
      show wp EM _ _ _
      exact wp_add64 (by omega) (by omega) (wp_ret (.inl ⟨rfl, _, rfl, H⟩))
    | true =>
      repeat (first | refine wp_gop_t ?_ | refine wp_gop_f rfl ?_ | refine wp_gop_u ?_ | refine wp_gcall_t ?_ | refine wp_gcall_f rfl ?_ | refine wp_gcall_u ?_ | refine wp_ite_t ?_ | refine wp_ite_f ?_ | refine wp_faddr ?_ | refine wp_nilchk ?_ | refine wp_op (o := .mv _) rfl ?_ | refine wp_op (o := .pick _ _ _) rfl ?_ | refine wp_op (o := .extract _ _) rfl ?_)
      refine wp_sp1 H ha fun _ _ hp => ?_
      repeat (first | refine wp_gop_t ?_ | refine wp_gop_f rfl ?_ | refine wp_gop_u ?_ | refine wp_gcall_t ?_ | refine wp_gcall_f rfl ?_ | refine wp_gcall_u ?_ | refine wp_ite_t ?_ | refine wp_ite_f ?_ | refine wp_faddr ?_ | refine wp_nilchk ?_ | refine wp_op (o := .mv _) rfl ?_ | refine wp_op (o := .pick _ _ _) rfl ?_ | refine wp_op (o := .extract _ _) rfl ?_)
      refine wp_sp2 hp ?_
      repeat (first | refine wp_gop_t ?_ | refine wp_gop_f rfl ?_ | refine wp_gop_u ?_ | refine wp_gcall_t ?_ | refine wp_gcall_f rfl ?_ | refine wp_gcall_u ?_ | refine wp_ite_t ?_ | refine wp_ite_f ?_ | refine wp_faddr ?_ | refine wp_nilchk ?_ | refine wp_op (o := .mv _) rfl ?_ | refine wp_op (o := .pick _ _ _) rfl ?_ | refine wp_op (o := .extract _ _) rfl ?_)
      refine wp_sp1 H hd fun _ _ hp => ?_
      repeat (first | refine wp_gop_t ?_ | refine wp_gop_f rfl ?_ | refine wp_gop_u ?_ | refine wp_gcall_t ?_ | refine wp_gcall_f rfl ?_ | refine wp_gcall_u ?_ | refine wp_ite_t ?_ | refine wp_ite_f ?_ | refine wp_faddr ?_ | refine wp_nilchk ?_ | refine wp_op (o := .mv _) rfl ?_ | refine wp_op (o := .pick _ _ _) rfl ?_ | refine wp_op (o := .extract _ _) rfl ?_)
      refine wp_sp2 hp ?_
      repeat (first | refine wp_gop_t ?_ | refine wp_gop_f rfl ?_ | refine wp_gop_u ?_ | refine wp_gcall_t ?_ | refine wp_gcall_f rfl ?_ | refine wp_gcall_u ?_ | refine wp_ite_t ?_ | refine wp_ite_f ?_ | refine wp_faddr ?_ | refine wp_nilchk ?_ | refine wp_op (o := .mv _) rfl ?_ | refine wp_op (o := .pick _ _ _) rfl ?_ | refine wp_op (o := .extract _ _) rfl ?_)
      refine wp_ahead H fun S4 H => ?_
      refine wp_gop_t (wp_not ?_)
      cases had : ahd h L[a] L[d] with
      | true =>
        repeat (first | refine wp_gop_t ?_ | refine wp_gop_f rfl ?_ | refine wp_gop_u ?_ | refine wp_gcall_t ?_ | refine wp_gcall_f rfl ?_ | refine wp_gcall_u ?_ | refine wp_ite_t ?_ | refine wp_ite_f ?_ | refine wp_faddr ?_ | refine wp_nilchk ?_ | refine wp_op (o := .mv _) rfl ?_ | refine wp_op (o := .pick _ _ _) rfl ?_ | refine wp_op (o := .extract _ _) rfl ?_)
        refine wp_ret ?_
        show wp EM _ _ _
        exact wp_add64 (by omega) (by omega) (wp_ret (.inl ⟨rfl, _, rfl, H⟩))
      | false =>
        repeat (first | refine wp_gop_t ?_ | refine wp_gop_f rfl ?_ | refine wp_gop_u ?_ | refine wp_gcall_t ?_ | refine wp_gcall_f rfl ?_ | refine wp_gcall_u ?_ | refine wp_ite_t ?_ | refine wp_ite_f ?_ | refine wp_faddr ?_ | refine wp_nilchk ?_ | refine wp_op (o := .mv _) rfl ?_ | refine wp_op (o := .pick _ _ _) rfl ?_ | refine wp_op (o := .extract _ _) rfl ?_)
        refine wp_sp1 H hc fun _ _ hp => ?_
        repeat (first | refine wp_gop_t ?_ | refine wp_gop_f rfl ?_ | refine wp_gop_u ?_ | refine wp_gcall_t ?_ | refine wp_gcall_f rfl ?_ | refine wp_gcall_u ?_ | refine wp_ite_t ?_ | refine wp_ite_f ?_ | refine wp_faddr ?_ | refine wp_nilchk ?_ | refine wp_op (o := .mv _) rfl ?_ | refine wp_op (o := .pick _ _ _) rfl ?_ | refine wp_op (o := .extract _ _) rfl ?_)
        refine wp_sp2 hp ?_
        repeat (first | refine wp_gop_t ?_ | refine wp_gop_f rfl ?_ | refine wp_gop_u ?_ | refine wp_gcall_t ?_ | refine wp_gcall_f rfl ?_ | refine wp_gcall_u ?_ | refine wp_ite_t ?_ | refine wp_ite_f ?_ | refine wp_faddr ?_ | refine wp_nilchk ?_ | refine wp_op (o := .mv _) rfl ?_ | refine wp_op (o := .pick _ _ _) rfl ?_ | refine wp_op (o := .extract _ _) rfl ?_)
        refine wp_sp1 H hb fun _ _ hp => ?_
        repeat (first | refine wp_gop_t ?_ | refine wp_gop_f rfl ?_ | refine wp_gop_u ?_ | refine wp_gcall_t ?_ | refine wp_gcall_f rfl ?_ | refine wp_gcall_u ?_ | refine wp_ite_t ?_ | refine wp_ite_f ?_ | refine wp_faddr ?_ | refine wp_nilchk ?_ | refine wp_op (o := .mv _) rfl ?_ | refine wp_op (o := .pick _ _ _) rfl ?_ | refine wp_op (o := .extract _ _) rfl ?_)
        refine wp_sp2 hp ?_
        repeat (first | refine wp_gop_t ?_ | refine wp_gop_f rfl ?_ | refine wp_gop_u ?_ | refine wp_gcall_t ?_ | refine wp_gcall_f rfl ?_ | refine wp_gcall_u ?_ | refine wp_ite_t ?_ | refine wp_ite_f ?_ | refine wp_faddr ?_ | refine wp_nilchk ?_ | refine wp_op (o := .mv _) rfl ?_ | refine wp_op (o := .pick _ _ _) rfl ?_ | refine wp_op (o := .extract _ _) rfl ?_)
        refine wp_ahead H fun S5 H => ?_
        rw [ahd_four hab hcd had]
        refine wp_gop_t (wp_not ?_)
        repeat (first | refine wp_gop_t ?_ | refine wp_gop_f rfl ?_ | refine wp_gop_u ?_ | refine wp_gcall_t ?_ | refine wp_gcall_f rfl ?_ | refine wp_gcall_u ?_ | refine wp_ite_t ?_ | refine wp_ite_f ?_ | refine wp_faddr ?_ | refine wp_nilchk ?_ | refine wp_op (o := .mv _) rfl ?_ | refine wp_op (o := .pick _ _ _) rfl ?_ | refine wp_op (o := .extract _ _) rfl ?_)
        refine wp_ret ?_
        show wp EM _ _ _
        exact wp_add64 (by omega) (by omega) (wp_ret (.inl ⟨rfl, _, rfl, H⟩))
  · rintro vs S2 ⟨u, rfl, H⟩
    refine wp_len H (by repeat (first | exact List.Mem.head _ | apply List.Mem.tail)) ?_
    rw [List.length_map]
    refine wp_lss_f (by omega) ?_
    repeat (first | refine wp_gop_t ?_ | refine wp_gop_f rfl ?_ | refine wp_gop_u ?_ | refine wp_gcall_t ?_ | refine wp_gcall_f rfl ?_ | refine wp_gcall_u ?_ | refine wp_ite_t ?_ | refine wp_ite_f ?_ | refine wp_faddr ?_ | refine wp_nilchk ?_ | refine wp_op (o := .mv _) rfl ?_ | refine wp_op (o := .pick _ _ _) rfl ?_ | refine wp_op (o := .extract _ _) rfl ?_)
    exact wp_ret ⟨by simp, wp_ret ⟨rfl, ⟨_, _, rfl⟩, H⟩⟩

theorem order_c (hL : L.length ≤ 100) {S1 : AH} {a b : Nat} (ha : a < L.length) (hb : b < L.length) (hab : ahd h L[a] L[b] = true) (htr : ∀ c (hc : c < L.length), ahd h L[b] L[c] = true → ahd h L[a] L[c] = true) {x1 x2 x3 x4 y1 y2 y3 : AV} (H : Ctx S S1 s h L) :
    wp EM (Try.a7x15 s [I (a : Int), x1, x2, x3, x4] [I (b : Int), y1, y2, y3]) S1 fun t vs S2 => t = .normal ∧ (∃ u1 u2 u3, vs = [u1, u2, u3]) ∧ Ctx S S2 s h L := by
  unfold Try.a7x15
  refine wp_bind (wp_loop (wpL_for L.length (fun c vs S2 => ∃ u1 u2, vs = [I (c : Int), u1, u2] ∧ Ctx S S2 s h L) ?_ ?_ ⟨_, _, rfl, H⟩))
  · rintro c vs S2 hc ⟨u1, u2, rfl, H⟩
    refine wp_len H (by repeat (first | exact List.Mem.head _ | apply List.Mem.tail)) ?_
    rw [List.length_map]
    refine wp_lss_t (by omega) ?_
    repeat (first | refine wp_gop_t ?_ | refine wp_gop_f rfl ?_ | refine wp_gop_u ?_ | refine wp_gcall_t ?_ | refine wp_gcall_f rfl ?_ | refine wp_gcall_u ?_ | refine wp_ite_t ?_ | refine wp_ite_f ?_ | refine wp_faddr ?_ | refine wp_nilchk ?_ | refine wp_op (o := .mv _) rfl ?_ | refine wp_op (o := .pick _ _ _) rfl ?_ | refine wp_op (o := .extract _ _) rfl ?_)
    refine wp_bind ?_
    refine wp_sp1 H hb fun _ _ hp => ?_
    refine wp_sp2 hp ?_
    refine wp_sp1 H hc fun _ _ hp => ?_
    refine wp_sp2 hp ?_
    refine wp_ahead H fun S3 H => ?_
    have inner : ∀ S4, Ctx S S4 s h L → wp EM (Try.a7x9 s [I (a : Int), x1, x2, x3, x4] [I (b : Int), y1, y2, y3] [I (c : Int), u1, u2]) S4 (boundTo EM (some 5) (fun v34 => Try.a7x13 [I (c : Int), u1, u2] v34) (fun v34 => [nth [I (c : Int), u1, u2] 0, nth v34 0, nth v34 1]) fun t vs1 S1 => (t = .normal ∧ ∃ u1 u2, vs1 = [I ((c + 1 : Nat) : Int), u1, u2] ∧ Ctx S S1 s h L) ∨
        (t ≠ .normal ∧ boundTo EM (some 4) (fun v31 => .ret .normal [nth v31 1, nth v31 0, nth v31 2]) (fun v31 => [nth v31 1, nth v31 0, nth v31 2]) (fun t vs S2 => t = .normal ∧ (∃ u1 u2 u3, vs = [u1, u2, u3]) ∧ Ctx S S2 s h L) t [nth vs1 0, nth vs1 1, nth vs1 2] S1)) := by
      intro S4 H
      refine wp_mono (order_d hL ha hb hc hab H) fun t vs S5 ⟨h1, ⟨w1, w2, h2⟩, H⟩ => ?_
      subst h1 h2
      show wp EM _ _ _
      exact wp_add64 (by omega) (by omega) (wp_ret (.inl ⟨rfl, _, _, rfl, H⟩))
    cases hbc : ahd h L[b] L[c] with
    | false =>
      repeat (first | refine wp_gop_t ?_ | refine wp_gop_f rfl ?_ | refine wp_gop_u ?_ | refine wp_gcall_t ?_ | refine wp_gcall_f rfl ?_ | refine wp_gcall_u ?_ | refine wp_ite_t ?_ | refine wp_ite_f ?_ | refine wp_faddr ?_ | refine wp_nilchk ?_ | refine wp_op (o := .mv _) rfl ?_ | refine wp_op (o := .pick _ _ _) rfl ?_ | refine wp_op (o := .extract _ _) rfl ?_)
      exact inner S3 H
    | true =>
      repeat (first | refine wp_gop_t ?_ | refine wp_gop_f rfl ?_ | refine wp_gop_u ?_ | refine wp_gcall_t ?_ | refine wp_gcall_f rfl ?_ | refine wp_gcall_u ?_ | refine wp_ite_t ?_ | refine wp_ite_f ?_ | refine wp_faddr ?_ | refine wp_nilchk ?_ | refine wp_op (o := .mv _) rfl ?_ | refine wp_op (o := .pick _ _ _) rfl ?_ | refine wp_op (o := .extract _ _) rfl ?_)
      refine wp_sp1 H ha fun _ _ hp => ?_
      repeat (first | refine wp_gop_t ?_ | refine wp_gop_f rfl ?_ | refine wp_gop_u ?_ | refine wp_gcall_t ?_ | refine wp_gcall_f rfl ?_ | refine wp_gcall_u ?_ | refine wp_ite_t ?_ | refine wp_ite_f ?_ | refine wp_faddr ?_ | refine wp_nilchk ?_ | refine wp_op (o := .mv _) rfl ?_ | refine wp_op (o := .pick _ _ _) rfl ?_ | refine wp_op (o := .extract _ _) rfl ?_)
      refine wp_sp2 hp ?_
      repeat (first | refine wp_gop_t ?_ | refine wp_gop_f rfl ?_ | refine wp_gop_u ?_ | refine wp_gcall_t ?_ | refine wp_gcall_f rfl ?_ | refine wp_gcall_u ?_ | refine wp_ite_t ?_ | refine wp_ite_f ?_ | refine wp_faddr ?_ | refine wp_nilchk ?_ | refine wp_op (o := .mv _) rfl ?_ | refine wp_op (o := .pick _ _ _) rfl ?_ | refine wp_op (o := .extract _ _) rfl ?_)
      refine wp_sp1 H hc fun _ _ hp => ?_
      repeat (first | refine wp_gop_t ?_ | refine wp_gop_f rfl ?_ | refine wp_gop_u ?_ | refine wp_gcall_t ?_ | refine wp_gcall_f rfl ?_ | refine wp_gcall_u ?_ | refine wp_ite_t ?_ | refine wp_ite_f ?_ | refine wp_faddr ?_ | refine wp_nilchk ?_ | refine wp_op (o := .mv _) rfl ?_ | refine wp_op (o := .pick _ _ _) rfl ?_ | refine wp_op (o := .extract _ _) rfl ?_)
      refine wp_sp2 hp ?_
      repeat (first | refine wp_gop_t ?_ | refine wp_gop_f rfl ?_ | refine wp_gop_u ?_ | refine wp_gcall_t ?_ | refine wp_gcall_f rfl ?_ | refine wp_gcall_u ?_ | refine wp_ite_t ?_ | refine wp_ite_f ?_ | refine wp_faddr ?_ | refine wp_nilchk ?_ | refine wp_op (o := .mv _) rfl ?_ | refine wp_op (o := .pick _ _ _) rfl ?_ | refine wp_op (o := .extract _ _) rfl ?_)
      refine wp_ahead H fun S4 H => ?_
      rw [htr c hc hbc]
      refine wp_gop_t (wp_not ?_)
      repeat (first | refine wp_gop_t ?_ | refine wp_gop_f rfl ?_ | refine wp_gop_u ?_ | refine wp_gcall_t ?_ | refine wp_gcall_f rfl ?_ | refine wp_gcall_u ?_ | refine wp_ite_t ?_ | refine wp_ite_f ?_ | refine wp_faddr ?_ | refine wp_nilchk ?_ | refine wp_op (o := .mv _) rfl ?_ | refine wp_op (o := .pick _ _ _) rfl ?_ | refine wp_op (o := .extract _ _) rfl ?_)
      exact inner S4 H
  · rintro vs S2 ⟨u1, u2, rfl, H⟩
    refine wp_len H (by repeat (first | exact List.Mem.head _ | apply List.Mem.tail)) ?_
    rw [List.length_map]
    refine wp_lss_f (by omega) ?_
    repeat (first | refine wp_gop_t ?_ | refine wp_gop_f rfl ?_ | refine wp_gop_u ?_ | refine wp_gcall_t ?_ | refine wp_gcall_f rfl ?_ | refine wp_gcall_u ?_ | refine wp_ite_t ?_ | refine wp_ite_f ?_ | refine wp_faddr ?_ | refine wp_nilchk ?_ | refine wp_op (o := .mv _) rfl ?_ | refine wp_op (o := .pick _ _ _) rfl ?_ | refine wp_op (o := .extract _ _) rfl ?_)
    exact wp_ret ⟨by simp, wp_ret ⟨rfl, ⟨_, _, _, rfl⟩, H⟩⟩

theorem order_b (hL : L.length ≤ 100) {S1 : AH} {a : Nat} (ha : a < L.length) (hirr : ∀ b (hb : b < L.length), ahd h L[a] L[b] = true → a ≠ b ∧ ahd h L[b] L[a] = false ∧ ∀ c (hc : c < L.length), ahd h L[b] L[c] = true → ahd h L[a] L[c] = true) {x1 x2 x3 x4 : AV} (H : Ctx S S1 s h L) :
    wp EM (Try.a7x20 s [I (a : Int), x1, x2, x3, x4]) S1 fun t vs S2 => t = .exit 2 ∧ (∃ u1 u2 u3 u4, vs = [u1, u2, u3, u4]) ∧ Ctx S S2 s h L := by
  unfold Try.a7x20
  refine wp_loop (wpL_for L.length (fun b vs S2 => ∃ u1 u2 u3, vs = [I (b : Int), u1, u2, u3] ∧ Ctx S S2 s h L) ?_ ?_ ⟨_, _, _, rfl, H⟩)
  · rintro b vs S2 hb ⟨u1, u2, u3, rfl, H⟩
    refine wp_len H (by repeat (first | exact List.Mem.head _ | apply List.Mem.tail)) ?_
    rw [List.length_map]
    refine wp_lss_t (by omega) ?_
    repeat (first | refine wp_gop_t ?_ | refine wp_gop_f rfl ?_ | refine wp_gop_u ?_ | refine wp_gcall_t ?_ | refine wp_gcall_f rfl ?_ | refine wp_gcall_u ?_ | refine wp_ite_t ?_ | refine wp_ite_f ?_ | refine wp_faddr ?_ | refine wp_nilchk ?_ | refine wp_op (o := .mv _) rfl ?_ | refine wp_op (o := .pick _ _ _) rfl ?_ | refine wp_op (o := .extract _ _) rfl ?_)
    refine wp_bind ?_
    refine wp_sp1 H ha fun _ _ hp => ?_
    refine wp_sp2 hp ?_
    refine wp_sp1 H hb fun _ _ hp => ?_
    refine wp_sp2 hp ?_
    refine wp_ahead H fun S3 H => ?_
    refine wp_not ?_
    cases hab : ahd h L[a] L[b] with
    | false =>
      repeat (first | refine wp_gop_t ?_ | refine wp_gop_f rfl ?_ | refine wp_gop_u ?_ | refine wp_gcall_t ?_ | refine wp_gcall_f rfl ?_ | refine wp_gcall_u ?_ | refine wp_ite_t ?_ | refine wp_ite_f ?_ | refine wp_faddr ?_ | refine wp_nilchk ?_ | refine wp_op (o := .mv _) rfl ?_ | refine wp_op (o := .pick _ _ _) rfl ?_ | refine wp_op (o := .extract _ _) rfl ?_)
      refine wp_ret ?_
      show wp EM _ _ _
      exact wp_add64 (by omega) (by omega) (wp_ret (.inl ⟨rfl, _, _, _, rfl, H⟩))
    | true =>
      obtain ⟨hne, has, htr⟩ := hirr b hb hab
      repeat (first | refine wp_gop_t ?_ | refine wp_gop_f rfl ?_ | refine wp_gop_u ?_ | refine wp_gcall_t ?_ | refine wp_gcall_f rfl ?_ | refine wp_gcall_u ?_ | refine wp_ite_t ?_ | refine wp_ite_f ?_ | refine wp_faddr ?_ | refine wp_nilchk ?_ | refine wp_op (o := .mv _) rfl ?_ | refine wp_op (o := .pick _ _ _) rfl ?_ | refine wp_op (o := .extract _ _) rfl ?_)
      refine wp_eql_f (by omega) ?_
      repeat (first | refine wp_gop_t ?_ | refine wp_gop_f rfl ?_ | refine wp_gop_u ?_ | refine wp_gcall_t ?_ | refine wp_gcall_f rfl ?_ | refine wp_gcall_u ?_ | refine wp_ite_t ?_ | refine wp_ite_f ?_ | refine wp_faddr ?_ | refine wp_nilchk ?_ | refine wp_op (o := .mv _) rfl ?_ | refine wp_op (o := .pick _ _ _) rfl ?_ | refine wp_op (o := .extract _ _) rfl ?_)
      refine wp_sp1 H hb fun _ _ hp => ?_
      repeat (first | refine wp_gop_t ?_ | refine wp_gop_f rfl ?_ | refine wp_gop_u ?_ | refine wp_gcall_t ?_ | refine wp_gcall_f rfl ?_ | refine wp_gcall_u ?_ | refine wp_ite_t ?_ | refine wp_ite_f ?_ | refine wp_faddr ?_ | refine wp_nilchk ?_ | refine wp_op (o := .mv _) rfl ?_ | refine wp_op (o := .pick _ _ _) rfl ?_ | refine wp_op (o := .extract _ _) rfl ?_)
      refine wp_sp2 hp ?_
      repeat (first | refine wp_gop_t ?_ | refine wp_gop_f rfl ?_ | refine wp_gop_u ?_ | refine wp_gcall_t ?_ | refine wp_gcall_f rfl ?_ | refine wp_gcall_u ?_ | refine wp_ite_t ?_ | refine wp_ite_f ?_ | refine wp_faddr ?_ | refine wp_nilchk ?_ | refine wp_op (o := .mv _) rfl ?_ | refine wp_op (o := .pick _ _ _) rfl ?_ | refine wp_op (o := .extract _ _) rfl ?_)
      refine wp_sp1 H ha fun _ _ hp => ?_
      repeat (first | refine wp_gop_t ?_ | refine wp_gop_f rfl ?_ | refine wp_gop_u ?_ | refine wp_gcall_t ?_ | refine wp_gcall_f rfl ?_ | refine wp_gcall_u ?_ | refine wp_ite_t ?_ | refine wp_ite_f ?_ | refine wp_faddr ?_ | refine wp_nilchk ?_ | refine wp_op (o := .mv _) rfl ?_ | refine wp_op (o := .pick _ _ _) rfl ?_ | refine wp_op (o := .extract _ _) rfl ?_)
      refine wp_sp2 hp ?_
      repeat (first | refine wp_gop_t ?_ | refine wp_gop_f rfl ?_ | refine wp_gop_u ?_ | refine wp_gcall_t ?_ | refine wp_gcall_f rfl ?_ | refine wp_gcall_u ?_ | refine wp_ite_t ?_ | refine wp_ite_f ?_ | refine wp_faddr ?_ | refine wp_nilchk ?_ | refine wp_op (o := .mv _) rfl ?_ | refine wp_op (o := .pick _ _ _) rfl ?_ | refine wp_op (o := .extract _ _) rfl ?_)
      refine wp_ahead H fun S4 H => ?_
      rw [has]
      repeat (first | refine wp_gop_t ?_ | refine wp_gop_f rfl ?_ | refine wp_gop_u ?_ | refine wp_gcall_t ?_ | refine wp_gcall_f rfl ?_ | refine wp_gcall_u ?_ | refine wp_ite_t ?_ | refine wp_ite_f ?_ | refine wp_faddr ?_ | refine wp_nilchk ?_ | refine wp_op (o := .mv _) rfl ?_ | refine wp_op (o := .pick _ _ _) rfl ?_ | refine wp_op (o := .extract _ _) rfl ?_)
      refine wp_mono (order_c hL ha hb hab htr H) fun t vs S5 ⟨h1, ⟨w1, w2, w3, h2⟩, H⟩ => ?_
      subst h1 h2
      show wp EM _ _ _
      exact wp_add64 (by omega) (by omega) (wp_ret (.inl ⟨rfl, _, _, _, rfl, H⟩))
  · rintro vs S2 ⟨u1, u2, u3, rfl, H⟩
    refine wp_len H (by repeat (first | exact List.Mem.head _ | apply List.Mem.tail)) ?_
    rw [List.length_map]
    refine wp_lss_f (by omega) ?_
    repeat (first | refine wp_gop_t ?_ | refine wp_gop_f rfl ?_ | refine wp_gop_u ?_ | refine wp_gcall_t ?_ | refine wp_gcall_f rfl ?_ | refine wp_gcall_u ?_ | refine wp_ite_t ?_ | refine wp_ite_f ?_ | refine wp_faddr ?_ | refine wp_nilchk ?_ | refine wp_op (o := .mv _) rfl ?_ | refine wp_op (o := .pick _ _ _) rfl ?_ | refine wp_op (o := .extract _ _) rfl ?_)
    exact wp_ret ⟨by simp, rfl, ⟨_, _, _, _, rfl⟩, H⟩
end

theorem eventOrder_ok {S : AH} {v : AV} {h : List Evt} (hv : RoSl S v 9 (evs h)) : wpC EM (.fn (.func 7) [] []) [v] S fun r _ => r = B true := by
  refine wpC_fn (b := Try.a7) rfl rfl ?_
  have H := Cx.ro1 hv
  unfold Try.a7
  refine known_ok ?_
  refine wp_len H (es := 9) (L := evs h) (by repeat (first | exact List.Mem.head _ | apply List.Mem.tail)) ?_
  rw [evs_len]
  refine wp_gtr (fun hlt => ?_) (fun hge => ?_)
  · repeat (first | refine wp_gop_t ?_ | refine wp_gop_f rfl ?_ | refine wp_gop_u ?_ | refine wp_gcall_t ?_ | refine wp_gcall_f rfl ?_ | refine wp_gcall_u ?_ | refine wp_ite_t ?_ | refine wp_ite_f ?_ | refine wp_faddr ?_ | refine wp_nilchk ?_ | refine wp_op (o := .mv _) rfl ?_ | refine wp_op (o := .pick _ _ _) rfl ?_ | refine wp_op (o := .extract _ _) rfl ?_)
    exact wp_ret ⟨rfl, rfl⟩
  repeat (first | refine wp_gop_t ?_ | refine wp_gop_f rfl ?_ | refine wp_gop_u ?_ | refine wp_gcall_t ?_ | refine wp_gcall_f rfl ?_ | refine wp_gcall_u ?_ | refine wp_ite_t ?_ | refine wp_ite_f ?_ | refine wp_faddr ?_ | refine wp_nilchk ?_ | refine wp_op (o := .mv _) rfl ?_ | refine wp_op (o := .pick _ _ _) rfl ?_ | refine wp_op (o := .extract _ _) rfl ?_)
  refine wp_callTup H (calls_ok (h := h) (H.roSl (es := 9) (by repeat (first | exact List.Mem.head _ | apply List.Mem.tail)))) fun s S2 H => ?_
  repeat (first | refine wp_gop_t ?_ | refine wp_gop_f rfl ?_ | refine wp_gop_u ?_ | refine wp_gcall_t ?_ | refine wp_gcall_f rfl ?_ | refine wp_gcall_u ?_ | refine wp_ite_t ?_ | refine wp_ite_f ?_ | refine wp_faddr ?_ | refine wp_nilchk ?_ | refine wp_op (o := .mv _) rfl ?_ | refine wp_op (o := .pick _ _ _) rfl ?_ | refine wp_op (o := .extract _ _) rfl ?_)
  refine wp_neq (fun hne => ?_) (fun hc => ?_)
  · rw [if_neg hne] at H
    repeat (first | refine wp_gop_t ?_ | refine wp_gop_f rfl ?_ | refine wp_gop_u ?_ | refine wp_gcall_t ?_ | refine wp_gcall_f rfl ?_ | refine wp_gcall_u ?_ | refine wp_ite_t ?_ | refine wp_ite_f ?_ | refine wp_faddr ?_ | refine wp_nilchk ?_ | refine wp_op (o := .mv _) rfl ?_ | refine wp_op (o := .pick _ _ _) rfl ?_ | refine wp_op (o := .extract _ _) rfl ?_)
    refine wp_callV H (check_ok (H.roSl (es := 9) (by repeat (first | exact List.Mem.head _ | apply List.Mem.tail)))) fun S3 H => ?_
    repeat (first | refine wp_gop_t ?_ | refine wp_gop_f rfl ?_ | refine wp_gop_u ?_ | refine wp_gcall_t ?_ | refine wp_gcall_f rfl ?_ | refine wp_gcall_u ?_ | refine wp_ite_t ?_ | refine wp_ite_f ?_ | refine wp_faddr ?_ | refine wp_nilchk ?_ | refine wp_op (o := .mv _) rfl ?_ | refine wp_op (o := .pick _ _ _) rfl ?_ | refine wp_op (o := .extract _ _) rfl ?_)
    refine wp_eql_t rfl ?_
    repeat (first | refine wp_gop_t ?_ | refine wp_gop_f rfl ?_ | refine wp_gop_u ?_ | refine wp_gcall_t ?_ | refine wp_gcall_f rfl ?_ | refine wp_gcall_u ?_ | refine wp_ite_t ?_ | refine wp_ite_f ?_ | refine wp_faddr ?_ | refine wp_nilchk ?_ | refine wp_op (o := .mv _) rfl ?_ | refine wp_op (o := .pick _ _ _) rfl ?_ | refine wp_op (o := .extract _ _) rfl ?_)
    refine wp_leno H 0 (v := s) (es := 10) (L := []) rfl ?_
    repeat (first | refine wp_gop_t ?_ | refine wp_gop_f rfl ?_ | refine wp_gop_u ?_ | refine wp_gcall_t ?_ | refine wp_gcall_f rfl ?_ | refine wp_gcall_u ?_ | refine wp_ite_t ?_ | refine wp_ite_f ?_ | refine wp_faddr ?_ | refine wp_nilchk ?_ | refine wp_op (o := .mv _) rfl ?_ | refine wp_op (o := .pick _ _ _) rfl ?_ | refine wp_op (o := .extract _ _) rfl ?_)
    refine wp_eql_t rfl ?_
    repeat (first | refine wp_gop_t ?_ | refine wp_gop_f rfl ?_ | refine wp_gop_u ?_ | refine wp_gcall_t ?_ | refine wp_gcall_f rfl ?_ | refine wp_gcall_u ?_ | refine wp_ite_t ?_ | refine wp_ite_f ?_ | refine wp_faddr ?_ | refine wp_nilchk ?_ | refine wp_op (o := .mv _) rfl ?_ | refine wp_op (o := .pick _ _ _) rfl ?_ | refine wp_op (o := .extract _ _) rfl ?_)
    exact wp_ret ⟨rfl, rfl⟩
  · rw [if_pos hc, spansN_eq] at H
    obtain ⟨hlen, hval⟩ := (chk_iff h).1 hc
    have hLl := callsN_len h h.length
    repeat (first | refine wp_gop_t ?_ | refine wp_gop_f rfl ?_ | refine wp_gop_u ?_ | refine wp_gcall_t ?_ | refine wp_gcall_f rfl ?_ | refine wp_gcall_u ?_ | refine wp_ite_t ?_ | refine wp_ite_f ?_ | refine wp_faddr ?_ | refine wp_nilchk ?_ | refine wp_op (o := .mv _) rfl ?_ | refine wp_op (o := .pick _ _ _) rfl ?_ | refine wp_op (o := .extract _ _) rfl ?_)
    have hmem : ∀ i (hi : i < (callsN h h.length).length), (callsN h h.length)[i] ∈ callsN h h.length := fun i hi => List.getElem_mem hi
    generalize hLe : callsN h h.length = L at H hLl hmem
    have H : Ctx S S2 s h L := (H.toRo (i := 0) rfl).dropRo (by simp)
    refine wp_bind (wp_loop (wpL_for L.length (fun a vs S3 => ∃ u1 u2 u3 u4, vs = [I (a : Int), u1, u2, u3, u4] ∧ Ctx S S3 s h L) ?_ ?_ ⟨_, _, _, _, rfl, H⟩))
    · rintro a vs S3 ha ⟨u1, u2, u3, u4, rfl, H⟩
      refine wp_len H (by repeat (first | exact List.Mem.head _ | apply List.Mem.tail)) ?_
      rw [List.length_map]
      refine wp_lss_t (by omega) ?_
      repeat (first | refine wp_gop_t ?_ | refine wp_gop_f rfl ?_ | refine wp_gop_u ?_ | refine wp_gcall_t ?_ | refine wp_gcall_f rfl ?_ | refine wp_gcall_u ?_ | refine wp_ite_t ?_ | refine wp_ite_f ?_ | refine wp_faddr ?_ | refine wp_nilchk ?_ | refine wp_op (o := .mv _) rfl ?_ | refine wp_op (o := .pick _ _ _) rfl ?_ | refine wp_op (o := .extract _ _) rfl ?_)
      refine wp_bind (wp_bind ?_)
      have ma : L[a] ∈ callsN h h.length := by rw [hLe]; exact List.getElem_mem ha
      refine wp_mono (order_b (by omega) ha (fun b hb hab => ?_) H) fun t vs S4 ⟨h1, ⟨w1, w2, w3, w4, h2⟩, H⟩ => ?_
      · have mb : L[b] ∈ callsN h h.length := by rw [hLe]; exact List.getElem_mem hb
        refine ⟨?_, ahd_asym hval ma mb hab, fun c hc hbc => ahd_trans hval mb hab hbc⟩
        intro e
        subst e
        rw [ahd_irr hval ma] at hab
        cases hab
      · subst h1 h2
        show wp EM _ _ _
        refine wp_ret ?_
        show wp EM _ _ _
        exact wp_add64 (by omega) (by omega) (wp_ret (.inl ⟨rfl, _, _, _, _, rfl, H⟩))
    · rintro vs S3 ⟨u1, u2, u3, u4, rfl, H⟩
      refine wp_len H (by repeat (first | exact List.Mem.head _ | apply List.Mem.tail)) ?_
      rw [List.length_map]
      refine wp_lss_f (by omega) ?_
      repeat (first | refine wp_gop_t ?_ | refine wp_gop_f rfl ?_ | refine wp_gop_u ?_ | refine wp_gcall_t ?_ | refine wp_gcall_f rfl ?_ | refine wp_gcall_u ?_ | refine wp_ite_t ?_ | refine wp_ite_f ?_ | refine wp_faddr ?_ | refine wp_nilchk ?_ | refine wp_op (o := .mv _) rfl ?_ | refine wp_op (o := .pick _ _ _) rfl ?_ | refine wp_op (o := .extract _ _) rfl ?_)
      exact wp_ret ⟨by simp, wp_ret ⟨rfl, rfl⟩⟩
end Go.Abs
