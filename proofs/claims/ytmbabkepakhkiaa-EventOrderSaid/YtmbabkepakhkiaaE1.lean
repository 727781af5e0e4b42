/- functions of this cut: what they compute, in the abstract machine. Conditions: stated in each theorem -/
import Derived.Test.YtmbabkepakhkiaaE0
set_option linter.unusedVariables false
set_option linter.unusedSimpArgs false
namespace Go.Abs
open Go.Proofs
set_option maxRecDepth 100000
theorem check_ok {S : AH} {v : AV} {h : List Evt} (hv : RoSl S v 9 (evs h)) : wpC EM (.fn (.func 10) [] []) [v] S fun r S' => r = I (chk h) ∧ Grows S S' := by
  refine wpC_fn (b := Try.a10) rfl rfl ?_
  unfold Try.a10
  refine wp_call (wpC_mono (read_ok hv) fun r S1 q => ?_)
  by_cases hc : chk h = 0
  · obtain ⟨id, d, rfl, _, K⟩ := q.2 hc
    repeat (first | refine wp_gop_t ?_ | refine wp_gop_f rfl ?_ | refine wp_gop_u ?_ | refine wp_gcall_t ?_ | refine wp_gcall_f rfl ?_ | refine wp_gcall_u ?_ | refine wp_ite_t ?_ | refine wp_ite_f ?_ | refine wp_faddr ?_ | refine wp_nilchk ?_ | refine wp_op (o := .mv _) rfl ?_ | refine wp_op (o := .pick _ _ _) rfl ?_ | refine wp_op (o := .extract _ _) rfl ?_)
    exact wp_ret ⟨rfl, by rw [hc]; rfl, K.grows⟩
  · obtain ⟨rfl, K⟩ := q.1 hc
    repeat (first | refine wp_gop_t ?_ | refine wp_gop_f rfl ?_ | refine wp_gop_u ?_ | refine wp_gcall_t ?_ | refine wp_gcall_f rfl ?_ | refine wp_gcall_u ?_ | refine wp_ite_t ?_ | refine wp_ite_f ?_ | refine wp_faddr ?_ | refine wp_nilchk ?_ | refine wp_op (o := .mv _) rfl ?_ | refine wp_op (o := .pick _ _ _) rfl ?_ | refine wp_op (o := .extract _ _) rfl ?_)
    exact wp_ret ⟨rfl, rfl, K⟩

/-- what the iterator needs -/
structure ItOk (S : AH) (hv : AV) (h : List Evt) (ph pd id : Nat) (d : List (Int × AV)) : Prop where
  cx : ∃ B, Cx B [] S [] [.sl hv 9 (evs h), .pt ph 0 [hv], .pt pd 0 [.map id], .ob id (.map (ment d))]
theorem iter_ok {S : AH} {hv : AV} {h : List Evt} {ph pd id l : Nat} {d : List (Int × AV)} (hd : Dia h d) (hlen : h.length ≤ 4096) (J : Nat → AH → Prop) (hJ : ∀ i S, J i S → ItOk S hv h ph pd id d) (hg : ∀ i S S', J i S → Grows S S' → J i S')
    (hskip : ∀ (i : Nat) S (hi : i < h.length), h[i].ans = true → J i S → J (i + 1) S)
    (hyield : ∀ (i : Nat) S (hi : i < h.length), h[i].ans = false → J i S → wpC EM (.yd l) [.agg (spanCs h h[i] i), I (atIx h h[i].id true)] S fun v S' => v = B true ∧ J (i + 1) S')
    (h0 : J 0 S) : wpC EM (.fn (.func 39) [] [.ptr ph 0, .ptr pd 0]) [.yd l] S fun _ S' => J h.length S' := by
  refine wpC_fn (b := Try.a39) rfl rfl ?_
  unfold Try.a39
  obtain ⟨⟨B0, H⟩⟩ := hJ 0 S h0
  refine wp_load0 H (cs := [hv]) (by repeat (first | exact List.Mem.head _ | apply List.Mem.tail)) rfl ?_
  refine wp_len H (by repeat (first | exact List.Mem.head _ | apply List.Mem.tail)) ?_
  rw [evs_len]
  refine wp_bind (wp_loop (wpL_for h.length (fun i vs S1 => vs = [I (i : Int)] ∧ J i S1) ?_ ?_ ⟨rfl, h0⟩))
  · rintro i vs S1 hlt ⟨rfl, hJi⟩
    obtain ⟨⟨B1, H⟩⟩ := hJ i S1 hJi
    have H : Cx S1 [] S1 [] [.sl hv 9 (evs h), .pt ph 0 [hv], .pt pd 0 [.map id], .ob id (.map (ment d))] := Cx.enter fun φ hφ => ⟨H.rh φ hφ, fun id hid => (H.ri φ hφ id hid).1⟩
    refine wp_lss_t (by omega) ?_
    repeat (first | refine wp_gop_t ?_ | refine wp_gop_f rfl ?_ | refine wp_gop_u ?_ | refine wp_gcall_t ?_ | refine wp_gcall_f rfl ?_ | refine wp_gcall_u ?_ | refine wp_ite_t ?_ | refine wp_ite_f ?_ | refine wp_faddr ?_ | refine wp_nilchk ?_ | refine wp_op (o := .mv _) rfl ?_ | refine wp_op (o := .pick _ _ _) rfl ?_ | refine wp_op (o := .extract _ _) rfl ?_)
    refine wp_bind ?_
    refine wp_saddr (i := i) H (by repeat (first | exact List.Mem.head _ | apply List.Mem.tail)) (evs_get hlt) fun p off H => ?_
    refine wp_loada H (cs := h[i].cs) (by repeat (first | exact List.Mem.head _ | apply List.Mem.tail)) (Nat.le_of_ble_eq_true rfl) ?_
    refine wp_alloc H fun b S3 H => ?_
    refine wp_store H 0 rfl rfl rfl (Nat.le_of_ble_eq_true rfl) fun S4 H => ?_
    replace H : Cx S1 [] S4 [] [.pt b 0 h[i].cs, .pt p off h[i].cs, .sl hv 9 (evs h), .pt ph 0 [hv], .pt pd 0 [.map id], .ob id (.map (ment d))] := H.freeze (i := 0) (c := h[i].cs) rfl
    repeat (first | refine wp_gop_t ?_ | refine wp_gop_f rfl ?_ | refine wp_gop_u ?_ | refine wp_gcall_t ?_ | refine wp_gcall_f rfl ?_ | refine wp_gcall_u ?_ | refine wp_ite_t ?_ | refine wp_ite_f ?_ | refine wp_faddr ?_ | refine wp_nilchk ?_ | refine wp_op (o := .mv _) rfl ?_ | refine wp_op (o := .pick _ _ _) rfl ?_ | refine wp_op (o := .extract _ _) rfl ?_)
    refine wp_load1 H (cs := h[i].cs) (by repeat (first | exact List.Mem.head _ | apply List.Mem.tail)) rfl ?_
    cases ha : h[i].ans with
    | true =>
      repeat (first | refine wp_gop_t ?_ | refine wp_gop_f rfl ?_ | refine wp_gop_u ?_ | refine wp_gcall_t ?_ | refine wp_gcall_f rfl ?_ | refine wp_gcall_u ?_ | refine wp_ite_t ?_ | refine wp_ite_f ?_ | refine wp_faddr ?_ | refine wp_nilchk ?_ | refine wp_op (o := .mv _) rfl ?_ | refine wp_op (o := .pick _ _ _) rfl ?_ | refine wp_op (o := .extract _ _) rfl ?_)
      refine wp_ret ?_
      show wp EM _ _ _
      exact wp_add64 (by omega) (by omega) (wp_ret (.inl ⟨rfl, rfl, hskip i S4 hlt ha (hg i _ _ hJi H.grows)⟩))
    | false =>
      repeat (first | refine wp_gop_t ?_ | refine wp_gop_f rfl ?_ | refine wp_gop_u ?_ | refine wp_gcall_t ?_ | refine wp_gcall_f rfl ?_ | refine wp_gcall_u ?_ | refine wp_ite_t ?_ | refine wp_ite_f ?_ | refine wp_faddr ?_ | refine wp_nilchk ?_ | refine wp_op (o := .mv _) rfl ?_ | refine wp_op (o := .pick _ _ _) rfl ?_ | refine wp_op (o := .extract _ _) rfl ?_)
      refine wp_load0 H (cs := [.map id]) (by repeat (first | exact List.Mem.head _ | apply List.Mem.tail)) rfl ?_
      repeat (first | refine wp_gop_t ?_ | refine wp_gop_f rfl ?_ | refine wp_gop_u ?_ | refine wp_gcall_t ?_ | refine wp_gcall_f rfl ?_ | refine wp_gcall_u ?_ | refine wp_ite_t ?_ | refine wp_ite_f ?_ | refine wp_faddr ?_ | refine wp_nilchk ?_ | refine wp_op (o := .mv _) rfl ?_ | refine wp_op (o := .pick _ _ _) rfl ?_ | refine wp_op (o := .extract _ _) rfl ?_)
      refine wp_load1 H (cs := h[i].cs) (by repeat (first | exact List.Mem.head _ | apply List.Mem.tail)) rfl ?_
      refine wp_lookupR H und3 (by repeat (first | exact List.Mem.head _ | apply List.Mem.tail)) ?_
      have hf : 0 ≤ atIx h h[i].id false := atIx_iff.2 ⟨h[i], List.getElem_mem hlt, rfl, ha⟩
      rw [hd.1, if_pos hf]
      refine wp_op (v := I (atIx h h[i].id true)) rfl ?_
      repeat (first | refine wp_gop_t ?_ | refine wp_gop_f rfl ?_ | refine wp_gop_u ?_ | refine wp_gcall_t ?_ | refine wp_gcall_f rfl ?_ | refine wp_gcall_u ?_ | refine wp_ite_t ?_ | refine wp_ite_f ?_ | refine wp_faddr ?_ | refine wp_nilchk ?_ | refine wp_op (o := .mv _) rfl ?_ | refine wp_op (o := .pick _ _ _) rfl ?_ | refine wp_op (o := .extract _ _) rfl ?_)
      refine wp_load1 H (cs := h[i].cs) (by repeat (first | exact List.Mem.head _ | apply List.Mem.tail)) rfl ?_
      repeat (first | refine wp_gop_t ?_ | refine wp_gop_f rfl ?_ | refine wp_gop_u ?_ | refine wp_gcall_t ?_ | refine wp_gcall_f rfl ?_ | refine wp_gcall_u ?_ | refine wp_ite_t ?_ | refine wp_ite_f ?_ | refine wp_faddr ?_ | refine wp_nilchk ?_ | refine wp_op (o := .mv _) rfl ?_ | refine wp_op (o := .pick _ _ _) rfl ?_ | refine wp_op (o := .extract _ _) rfl ?_)
      refine wp_loadn H (cs := h[i].cs) (by repeat (first | exact List.Mem.head _ | apply List.Mem.tail)) (Nat.le_of_ble_eq_true rfl) ?_
      refine wp_op (v := .agg [I h[i].id, I (i : Int), I (atIx h h[i].id true), I h[i].a1, I h[i].a2, I h[i].a3, U h[i].a4, I 0, I 0, U 0]) rfl ?_
      refine wp_alloc H fun s S5 H => ?_
      refine wp_store H 0 rfl rfl rfl (Nat.le_of_ble_eq_true rfl) fun S6 H => ?_
      have hl10 := spanCs_len h h[i] i
      -- the span is whole: it is told
      have fin : ∀ S7, Cx S1 [] S7 [.obj s (.row (spanCs h h[i] i))] [.pt b 0 h[i].cs, .pt p off h[i].cs, .sl hv 9 (evs h), .pt ph 0 [hv], .pt pd 0 [.map id], .ob id (.map (ment d))] →
          wp EM (Try.a39x2 [.yd l, .ptr ph 0, .ptr pd 0] (I (atIx h h[i].id true)) (.ptr s 0)) S7 fun t vs S8 => t = .normal ∧ vs = [] ∧ J (i + 1) S8 := by
        intro S7 H
        unfold Try.a39x2
        refine wp_loadoa H 0 rfl (by rw [hl10]; omega) ?_
        have e : List.take 10 (List.drop 0 (spanCs h h[i] i)) = spanCs h h[i] i := by rw [List.drop_zero, List.take_of_length_le (by omega)]
        rw [e]
        refine wp_call (wpC_mono (hyield i S7 hlt ha (hg i _ _ hJi H.grows)) fun r S8 ⟨hr, hJ'⟩ => ?_)
        subst hr
        refine wp_not ?_
        repeat (first | refine wp_gop_t ?_ | refine wp_gop_f rfl ?_ | refine wp_gop_u ?_ | refine wp_gcall_t ?_ | refine wp_gcall_f rfl ?_ | refine wp_gcall_u ?_ | refine wp_ite_t ?_ | refine wp_ite_f ?_ | refine wp_faddr ?_ | refine wp_nilchk ?_ | refine wp_op (o := .mv _) rfl ?_ | refine wp_op (o := .pick _ _ _) rfl ?_ | refine wp_op (o := .extract _ _) rfl ?_)
        exact wp_ret ⟨rfl, rfl, hJ'⟩
      have last : ∀ S7, Cx S1 [] S7 [.obj s (.row (spanCs h h[i] i))] [.pt b 0 h[i].cs, .pt p off h[i].cs, .sl hv 9 (evs h), .pt ph 0 [hv], .pt pd 0 [.map id], .ob id (.map (ment d))] →
          wp EM (Try.a39x2 [.yd l, .ptr ph 0, .ptr pd 0] (I (atIx h h[i].id true)) (.ptr s 0)) S7 (boundTo EM (some 1) (fun v5 => Try.a39x7 [I (i : Int)]) (fun v5 => [nth [I (i : Int)] 0]) fun t vs1 S1 => (t = .normal ∧ vs1 = [I ((i + 1 : Nat) : Int)] ∧ J (i + 1) S1) ∨
            (t ≠ .normal ∧ boundTo EM (some 0) (fun v3 => .ret .ret []) (fun v3 => []) (fun t vs S' => t = .ret ∧ J h.length S') t [nth vs1 0] S1)) := by
        intro S7 H
        refine wp_mono (fin S7 H) fun t vs S8 ⟨h1, h2, h3⟩ => ?_
        subst h1 h2
        show wp EM _ _ _
        exact wp_add64 (by omega) (by omega) (wp_ret (.inl ⟨rfl, rfl, h3⟩))
      refine wp_geq (fun h0 => ?_) (fun h0 => ?_)
      · obtain ⟨j, hj, he'⟩ := atIx_lt h0
        refine wp_bind ?_
        rw [he']
        repeat (first | refine wp_gop_t ?_ | refine wp_gop_f rfl ?_ | refine wp_gop_u ?_ | refine wp_gcall_t ?_ | refine wp_gcall_f rfl ?_ | refine wp_gcall_u ?_ | refine wp_ite_t ?_ | refine wp_ite_f ?_ | refine wp_faddr ?_ | refine wp_nilchk ?_ | refine wp_op (o := .mv _) rfl ?_ | refine wp_op (o := .pick _ _ _) rfl ?_ | refine wp_op (o := .extract _ _) rfl ?_)
        refine wp_load0 H (cs := [hv]) (by repeat (first | exact List.Mem.head _ | apply List.Mem.tail)) rfl ?_
        refine wp_saddr (i := j) H (by repeat (first | exact List.Mem.head _ | apply List.Mem.tail)) (evs_get hj) fun p4 off4 H => ?_
        repeat (first | refine wp_gop_t ?_ | refine wp_gop_f rfl ?_ | refine wp_gop_u ?_ | refine wp_gcall_t ?_ | refine wp_gcall_f rfl ?_ | refine wp_gcall_u ?_ | refine wp_ite_t ?_ | refine wp_ite_f ?_ | refine wp_faddr ?_ | refine wp_nilchk ?_ | refine wp_op (o := .mv _) rfl ?_ | refine wp_op (o := .pick _ _ _) rfl ?_ | refine wp_op (o := .extract _ _) rfl ?_)
        refine wp_loadn H (by repeat (first | exact List.Mem.head _ | apply List.Mem.tail)) (Nat.le_of_ble_eq_true rfl) ?_
        repeat (first | refine wp_gop_t ?_ | refine wp_gop_f rfl ?_ | refine wp_gop_u ?_ | refine wp_gcall_t ?_ | refine wp_gcall_f rfl ?_ | refine wp_gcall_u ?_ | refine wp_ite_t ?_ | refine wp_ite_f ?_ | refine wp_faddr ?_ | refine wp_nilchk ?_ | refine wp_op (o := .mv _) rfl ?_ | refine wp_op (o := .pick _ _ _) rfl ?_ | refine wp_op (o := .extract _ _) rfl ?_)
        refine wp_store H 0 rfl rfl rfl (Nat.le_of_ble_eq_true rfl) fun S7 H => ?_
        refine wp_ret ?_
        rw [← he']
        refine last S7 (Eq.mp ?_ H.tl)
        have : spanCs h h[i] i = [I h[i].id, I (i : Int), I (j : Int), I h[i].a1, I h[i].a2, I h[i].a3, U h[i].a4, I h[j].b1, I h[j].b2, U h[j].b3] := by
          unfold spanCs ansAt
          rw [he', if_pos (by omega)]
          simp [hj]
        rw [this, he']; rfl
      · refine wp_bind ?_
        repeat (first | refine wp_gop_t ?_ | refine wp_gop_f rfl ?_ | refine wp_gop_u ?_ | refine wp_gcall_t ?_ | refine wp_gcall_f rfl ?_ | refine wp_gcall_u ?_ | refine wp_ite_t ?_ | refine wp_ite_f ?_ | refine wp_faddr ?_ | refine wp_nilchk ?_ | refine wp_op (o := .mv _) rfl ?_ | refine wp_op (o := .pick _ _ _) rfl ?_ | refine wp_op (o := .extract _ _) rfl ?_)
        refine wp_ret ?_
        refine last S6 (Eq.mp ?_ H)
        have : spanCs h h[i] i = [I h[i].id, I (i : Int), I (atIx h h[i].id true), I h[i].a1, I h[i].a2, I h[i].a3, U h[i].a4, I 0, I 0, U 0] := by
          unfold spanCs ansAt
          rw [if_neg (by omega)]; rfl
        rw [this]; rfl
  · rintro vs S1 ⟨rfl, hJi⟩
    refine wp_lss_f (by omega) ?_
    repeat (first | refine wp_gop_t ?_ | refine wp_gop_f rfl ?_ | refine wp_gop_u ?_ | refine wp_gcall_t ?_ | refine wp_gcall_f rfl ?_ | refine wp_gcall_u ?_ | refine wp_ite_t ?_ | refine wp_ite_f ?_ | refine wp_faddr ?_ | refine wp_nilchk ?_ | refine wp_op (o := .mv _) rfl ?_ | refine wp_op (o := .pick _ _ _) rfl ?_ | refine wp_op (o := .extract _ _) rfl ?_)
    exact wp_ret ⟨by simp, wp_ret ⟨rfl, hJi⟩⟩
end Go.Abs
namespace Go.Abs
open Go.Proofs
set_option maxRecDepth 100000
/-- the iterator, made -/
theorem calls35_ok {S : AH} {id : Nat} {hv : AV} {B0 : AH} {W : List Nat} {own : List Own} {ro : List Fct} {Q : Post} {k : AV → AC} (H : Cx B0 W S own ro) (ho : odd hv = false) (hc : hv.cells = [hv])
    (h : ∀ ph pd S1, Cx B0 W S1 own (.pt ph 0 [hv] :: .pt pd 0 [.map id] :: ro) → wp EM (k (.fn (.func 39) [] [.ptr ph 0, .ptr pd 0])) S1 Q) : wp EM (.call (.fn (.func 35) [] []) [.map id, hv] k) S Q := by
  refine wp_call (wpC_fn (b := Try.a35) rfl rfl ?_)
  unfold Try.a35
  refine wp_box H rfl fun pd S1 H => ?_
  refine wp_box H ho fun ph S2 H => ?_
  refine wp_ret ⟨rfl, ?_⟩
  refine h ph pd S2 ?_
  rw [show AV.cells (nth ([] ++ ([AV.map id, hv] ++ [])) 1) = [hv] from hc] at H
  exact H

theorem spansN_succ {h : List Evt} {i : Nat} (hi : i < h.length) : spansN h (i + 1) = if h[i].ans = true then spansN h i else spansN h i ++ [spanCs h h[i] i] := by
  conv => lhs; unfold spansN
  rw [List.getElem?_eq_getElem hi]
theorem slOk_odd {S : AH} {v : AV} {es : Nat} {L : List (List AV)} (h : slOk S v es L) : odd v = false ∧ v.cells = [v] := by
  rcases h with ⟨rfl, _⟩ | ⟨id, off, c, h0, _⟩
  · exact ⟨rfl, rfl⟩
  · rcases h0 with ⟨_, _, _, rfl⟩ | ⟨_, _, _, rfl⟩ <;> exact ⟨rfl, rfl⟩

theorem calls_ok {S : AH} {v : AV} {h : List Evt} (hv : RoSl S v 9 (evs h)) : wpC EM (.fn (.func 15) [] []) [v] S fun r S' =>
    (chk h ≠ 0 → r = .tup [Ns, I (chk h)] ∧ Grows S S') ∧ (chk h = 0 → ∃ w, r = .tup [w, I 0] ∧ Cx S [] S' [.sl w 10 (spansN h h.length)] []) := by
  refine wpC_fn (b := Try.a15) rfl rfl ?_
  have H := Cx.ro1 hv
  unfold Try.a15
  refine wp_call (wpC_mono (read_ok hv) fun r S1 q => ?_)
  by_cases hc : chk h = 0
  · obtain ⟨id, d, rfl, hd, K⟩ := q.2 hc
    have hlen := chk_len hc
    replace H : Cx S [] S1 [.obj id (.map (ment d))] [.sl v 9 (evs h)] := H.addOwn K.grows (K.oh _ (List.Mem.head _)) fun j hj => by
      have := K.oi _ (List.Mem.head _) j hj
      refine ⟨?_, this.1⟩
      by_cases hlt : j < S.next
      · have := this.2 hlt; simp at this
      · omega
    replace H := H.freezeOb (i := 0) rfl
    repeat (first | refine wp_gop_t ?_ | refine wp_gop_f rfl ?_ | refine wp_gop_u ?_ | refine wp_gcall_t ?_ | refine wp_gcall_f rfl ?_ | refine wp_gcall_u ?_ | refine wp_ite_t ?_ | refine wp_ite_f ?_ | refine wp_faddr ?_ | refine wp_nilchk ?_ | refine wp_op (o := .mv _) rfl ?_ | refine wp_op (o := .pick _ _ _) rfl ?_ | refine wp_op (o := .extract _ _) rfl ?_)
    refine wp_neq_f rfl ?_
    repeat (first | refine wp_gop_t ?_ | refine wp_gop_f rfl ?_ | refine wp_gop_u ?_ | refine wp_gcall_t ?_ | refine wp_gcall_f rfl ?_ | refine wp_gcall_u ?_ | refine wp_ite_t ?_ | refine wp_ite_f ?_ | refine wp_faddr ?_ | refine wp_nilchk ?_ | refine wp_op (o := .mv _) rfl ?_ | refine wp_op (o := .pick _ _ _) rfl ?_ | refine wp_op (o := .extract _ _) rfl ?_)
    refine wp_alloc H fun o S2 H => ?_
    refine calls35_ok H (slOk_odd hv.1).1 (slOk_odd hv.1).2 fun ph pd S3 H => ?_
    refine wp_bind ?_
    -- the range: 'o' holds the spans that have been told
    refine wp_rngO (Done := fun S' => ∃ u, Cx S [] S' [.sl u 10 (spansN h h.length), .obj o (.row [u])] []) (H.addOwn (x := .sl Ns 10 []) (Grows.refl _) (.inl ⟨rfl, rfl⟩) (by simp [Own.ids, vids])) (by intro i e; cases e) ?_ ?_
    · intro l S4 H
      refine wpC_mono (iter_ok (id := id) (hv := v) hd hlen (fun i S' => ∃ u, Cx S [] S' [.obj l (.loop .ready none 2 fun v7 => Try.a15x1 (.ptr o 0) v7), .sl u 10 (spansN h i), .obj o (.row [u])] [.pt ph 0 [v], .pt pd 0 [.map id], .ob id (.map (ment d)), .sl v 9 (evs h)]) ?_ ?_ ?_ ?_ ⟨_, H⟩) fun r S5 ⟨u, H⟩ => ⟨H.oh _ (List.Mem.head _), fun S6 e1 e2 => ⟨u, ?_⟩⟩
      · rintro i S' ⟨u, H⟩
        exact ⟨⟨S, (H.dropOwn (List.nil_sublist _)).dropRo (by simp)⟩⟩
      · rintro i S' S'' ⟨u, H⟩ hg
        exact ⟨u, H.grow hg⟩
      · rintro i S' hi ha ⟨u, H⟩
        refine ⟨u, ?_⟩
        rw [spansN_succ hi, if_pos ha]; exact H
      · rintro i S' hi ha ⟨u, H⟩
        have hsl := spansN_len h i
        have hl10 := spanCs_len h h[i] i
        refine wpC_ydO H 0 rfl rfl ?_
        show wp EM (Try.a15x1 _ _) S' _
        unfold Try.a15x1
        refine wp_alloc H fun s S5 H => ?_
        refine wp_store H 0 rfl rfl hl10 (by simp [AV.cells]) fun S6 H => ?_
        replace H : Cx S [] S6 (.obj s (.row (spanCs h h[i] i)) :: _) _ := Eq.mp (by
          have : setRange [I 0, I 0, I 0, I 0, I 0, I 0, U 0, I 0, I 0, U 0] 0 (nth [AV.yd l, .agg (spanCs h h[i] i), I (atIx h h[i].id true)] 1).cells = spanCs h h[i] i := by
            rw [setRange_eq]
            show List.take 0 _ ++ (spanCs h h[i] i ++ List.drop (0 + (spanCs h h[i] i).length) _) = _
            rw [hl10]; simp
          rw [this]; rfl) H
        refine wp_startO H 1 rfl fun S7 H => ?_
        refine wp_bind ?_
        show wp EM (Try.a15x0 _ _) S7 _
        unfold Try.a15x0
        refine wp_loado H 3 rfl rfl ?_
        refine wp_loadoa H 0 rfl (by rw [hl10]; omega) ?_
        have e : List.take 10 (List.drop 0 (spanCs h h[i] i)) = spanCs h h[i] i := by rw [List.drop_zero, List.take_of_length_le (by omega)]
        rw [e]
        refine wp_push H 2 rfl rfl hl10 rfl (by unfold maxBytes; omega) (by unfold maxLenN; omega) fun u1 S8 H => ?_
        have hod := slOk_odd (H.ownSl (n := 2) (v := u1) (es := 10) (L := spansN h i ++ [spanCs h h[i] i]) rfl).1
        refine wp_store H 3 rfl hod.1 (by rw [hod.2]; rfl) (Nat.le_of_ble_eq_true rfl) fun S9 H => ?_
        rw [hod.2] at H
        refine wp_ret (wp_ret ⟨rfl, _, _, H.dropAt 0, rfl, fun S10 H => ⟨u1, ?_⟩⟩)
        rw [spansN_succ hi, if_neg (by simp [ha])]
        exact H
      · exact ((H.other (n := 0) rfl e1 e2).dropRo (by simp) : Cx S [] S6 [.sl u 10 (spansN h h.length), .obj o (.row [u])] [])
    · rintro S4 ⟨u, H⟩
      refine wp_ret ?_
      show wp EM _ _ _
      refine wp_loado H 1 rfl rfl ?_
      refine wp_ret ⟨rfl, fun e => absurd hc e, fun _ => ⟨u, rfl, ?_⟩⟩
      exact H.dropOwn (List.Sublist.cons_cons _ (List.nil_sublist _))
  · obtain ⟨rfl, K⟩ := q.1 hc
    repeat (first | refine wp_gop_t ?_ | refine wp_gop_f rfl ?_ | refine wp_gop_u ?_ | refine wp_gcall_t ?_ | refine wp_gcall_f rfl ?_ | refine wp_gcall_u ?_ | refine wp_ite_t ?_ | refine wp_ite_f ?_ | refine wp_faddr ?_ | refine wp_nilchk ?_ | refine wp_op (o := .mv _) rfl ?_ | refine wp_op (o := .pick _ _ _) rfl ?_ | refine wp_op (o := .extract _ _) rfl ?_)
    refine wp_neq_t hc ?_
    repeat (first | refine wp_gop_t ?_ | refine wp_gop_f rfl ?_ | refine wp_gop_u ?_ | refine wp_gcall_t ?_ | refine wp_gcall_f rfl ?_ | refine wp_gcall_u ?_ | refine wp_ite_t ?_ | refine wp_ite_f ?_ | refine wp_faddr ?_ | refine wp_nilchk ?_ | refine wp_op (o := .mv _) rfl ?_ | refine wp_op (o := .pick _ _ _) rfl ?_ | refine wp_op (o := .extract _ _) rfl ?_)
    exact wp_ret ⟨rfl, fun _ => ⟨rfl, K⟩, fun e => absurd e hc⟩
end Go.Abs
namespace Go.Abs
open Go.Proofs
set_option maxRecDepth 100000
theorem callsN_succ {h : List Evt} {i : Nat} (hi : i < h.length) : callsN h (i + 1) = if h[i].ans = true then callsN h i else callsN h i ++ [(h[i], i)] := by
  conv => lhs; unfold callsN
  rw [List.getElem?_eq_getElem hi]
theorem pendL_snoc (h : List Evt) (l : List (Evt × Nat)) (p : Evt × Nat) : pendL h (l ++ [p]) = if atIx h p.1.id true < 0 then pendL h l ++ [p.1.id] else pendL h l := by
  unfold pendL
  rw [List.filter_append, List.map_append]
  by_cases hp : atIx h p.1.id true < 0
  · simp [hp]
  · simp [hp]
theorem ints_snoc (l : List Int) (n : Int) : ints (l ++ [n]) = ints l ++ [[I n]] := by simp [ints]

theorem pending_ok {S : AH} {v : AV} {h : List Evt} (hv : RoSl S v 9 (evs h)) : wpC EM (.fn (.func 17) [] []) [v] S fun r S' => Cx S [] S' [.sl r 1 (ints (pend h))] [] := by
  refine wpC_fn (b := Try.a17) rfl rfl ?_
  have H := Cx.ro1 hv
  unfold Try.a17 pend
  refine wp_call (wpC_mono (read_ok hv) fun r S1 q => ?_)
  by_cases hc : chk h = 0
  · rw [if_pos hc]
    obtain ⟨id, d, rfl, hd, K⟩ := q.2 hc
    have hlen := chk_len hc
    replace H : Cx S [] S1 [.obj id (.map (ment d))] [.sl v 9 (evs h)] := H.addOwn K.grows (K.oh _ (List.Mem.head _)) fun j hj => by
      have := K.oi _ (List.Mem.head _) j hj
      refine ⟨?_, this.1⟩
      by_cases hlt : j < S.next
      · have := this.2 hlt; simp at this
      · omega
    replace H := H.freezeOb (i := 0) rfl
    repeat (first | refine wp_gop_t ?_ | refine wp_gop_f rfl ?_ | refine wp_gop_u ?_ | refine wp_gcall_t ?_ | refine wp_gcall_f rfl ?_ | refine wp_gcall_u ?_ | refine wp_ite_t ?_ | refine wp_ite_f ?_ | refine wp_faddr ?_ | refine wp_nilchk ?_ | refine wp_op (o := .mv _) rfl ?_ | refine wp_op (o := .pick _ _ _) rfl ?_ | refine wp_op (o := .extract _ _) rfl ?_)
    refine wp_neq_f rfl ?_
    repeat (first | refine wp_gop_t ?_ | refine wp_gop_f rfl ?_ | refine wp_gop_u ?_ | refine wp_gcall_t ?_ | refine wp_gcall_f rfl ?_ | refine wp_gcall_u ?_ | refine wp_ite_t ?_ | refine wp_ite_f ?_ | refine wp_faddr ?_ | refine wp_nilchk ?_ | refine wp_op (o := .mv _) rfl ?_ | refine wp_op (o := .pick _ _ _) rfl ?_ | refine wp_op (o := .extract _ _) rfl ?_)
    refine wp_alloc H fun o S2 H => ?_
    refine calls35_ok H (slOk_odd hv.1).1 (slOk_odd hv.1).2 fun ph pd S3 H => ?_
    refine wp_bind ?_
    refine wp_rngO (Done := fun S' => ∃ u, Cx S [] S' [.sl u 1 (ints (pendL h (callsN h h.length))), .obj o (.row [u])] []) (H.addOwn (x := .sl Ns 1 []) (Grows.refl _) (.inl ⟨rfl, rfl⟩) (by simp [Own.ids, vids])) (by intro i e; cases e) ?_ ?_
    · intro l S4 H
      refine wpC_mono (iter_ok (id := id) (hv := v) hd hlen (fun i S' => ∃ u, Cx S [] S' [.obj l (.loop .ready none 2 fun v7 => Try.a17x2 (.ptr o 0) v7), .sl u 1 (ints (pendL h (callsN h i))), .obj o (.row [u])] [.pt ph 0 [v], .pt pd 0 [.map id], .ob id (.map (ment d)), .sl v 9 (evs h)]) ?_ ?_ ?_ ?_ ⟨_, H⟩) fun r S5 ⟨u, H⟩ => ⟨H.oh _ (List.Mem.head _), fun S6 e1 e2 => ⟨u, ?_⟩⟩
      · rintro i S' ⟨u, H⟩
        exact ⟨⟨S, (H.dropOwn (List.nil_sublist _)).dropRo (by simp)⟩⟩
      · rintro i S' S'' ⟨u, H⟩ hg
        exact ⟨u, H.grow hg⟩
      · rintro i S' hi ha ⟨u, H⟩
        refine ⟨u, ?_⟩
        rw [callsN_succ hi, if_pos ha]; exact H
      · rintro i S' hi ha ⟨u, H⟩
        have hsl : (pendL h (callsN h i)).length ≤ i := Nat.le_trans (pendL_len _ _) (callsN_len h i)
        have hl10 := spanCs_len h h[i] i
        refine wpC_ydO H 0 rfl rfl ?_
        show wp EM (Try.a17x2 _ _) S' _
        unfold Try.a17x2
        refine wp_alloc H fun s S5 H => ?_
        refine wp_store H 0 rfl rfl hl10 (by simp [AV.cells]) fun S6 H => ?_
        replace H : Cx S [] S6 (.obj s (.row (spanCs h h[i] i)) :: _) _ := Eq.mp (by
          have : setRange [I 0, I 0, I 0, I 0, I 0, I 0, U 0, I 0, I 0, U 0] 0 (nth [AV.yd l, .agg (spanCs h h[i] i), I (atIx h h[i].id true)] 1).cells = spanCs h h[i] i := by
            rw [setRange_eq]
            show List.take 0 _ ++ (spanCs h h[i] i ++ List.drop (0 + (spanCs h h[i] i).length) _) = _
            rw [hl10]; simp
          rw [this]; rfl) H
        refine wp_startO H 1 rfl fun S7 H => ?_
        refine wp_bind ?_
        refine wp_lss (fun hneg => ?_) (fun hpos => ?_)
        · refine wp_bind ?_
          repeat (first | refine wp_gop_t ?_ | refine wp_gop_f rfl ?_ | refine wp_gop_u ?_ | refine wp_gcall_t ?_ | refine wp_gcall_f rfl ?_ | refine wp_gcall_u ?_ | refine wp_ite_t ?_ | refine wp_ite_f ?_ | refine wp_faddr ?_ | refine wp_nilchk ?_ | refine wp_op (o := .mv _) rfl ?_ | refine wp_op (o := .pick _ _ _) rfl ?_ | refine wp_op (o := .extract _ _) rfl ?_)
          refine wp_loado H 3 rfl rfl ?_
          repeat (first | refine wp_gop_t ?_ | refine wp_gop_f rfl ?_ | refine wp_gop_u ?_ | refine wp_gcall_t ?_ | refine wp_gcall_f rfl ?_ | refine wp_gcall_u ?_ | refine wp_ite_t ?_ | refine wp_ite_f ?_ | refine wp_faddr ?_ | refine wp_nilchk ?_ | refine wp_op (o := .mv _) rfl ?_ | refine wp_op (o := .pick _ _ _) rfl ?_ | refine wp_op (o := .extract _ _) rfl ?_)
          refine wp_loado (v := I h[i].id) H 0 rfl rfl ?_
          refine wp_push H 2 rfl rfl rfl rfl (by rw [ints_len]; unfold maxBytes; omega) (by rw [ints_len]; unfold maxLenN; omega) fun u1 S8 H => ?_
          have hod := slOk_odd (H.ownSl (n := 2) (v := u1) (es := 1) (L := ints (pendL h (callsN h i)) ++ [[I h[i].id]]) rfl).1
          refine wp_store H 3 rfl hod.1 (by rw [hod.2]; rfl) (Nat.le_of_ble_eq_true rfl) fun S9 H => ?_
          rw [hod.2] at H
          refine wp_ret (wp_ret (wp_ret ⟨rfl, _, _, H.dropAt 0, rfl, fun S10 H => ⟨u1, ?_⟩⟩))
          rw [callsN_succ hi, if_neg (by simp [ha]), pendL_snoc, if_pos hneg, ints_snoc]
          exact H
        · refine wp_bind ?_
          repeat (first | refine wp_gop_t ?_ | refine wp_gop_f rfl ?_ | refine wp_gop_u ?_ | refine wp_gcall_t ?_ | refine wp_gcall_f rfl ?_ | refine wp_gcall_u ?_ | refine wp_ite_t ?_ | refine wp_ite_f ?_ | refine wp_faddr ?_ | refine wp_nilchk ?_ | refine wp_op (o := .mv _) rfl ?_ | refine wp_op (o := .pick _ _ _) rfl ?_ | refine wp_op (o := .extract _ _) rfl ?_)
          refine wp_ret (wp_ret (wp_ret ⟨rfl, _, _, H.dropAt 0, rfl, fun S10 H => ⟨u, ?_⟩⟩))
          rw [callsN_succ hi, if_neg (by simp [ha]), pendL_snoc, if_neg (by show ¬ atIx h h[i].id true < 0; have : 0 ≤ atIx h h[i].id true := hpos; omega)]
          exact H
      · exact ((H.other (n := 0) rfl e1 e2).dropRo (by simp) : Cx S [] S6 [.sl u 1 (ints (pendL h (callsN h h.length))), .obj o (.row [u])] [])
    · rintro S4 ⟨u, H⟩
      refine wp_ret ?_
      show wp EM _ _ _
      refine wp_loado H 1 rfl rfl ?_
      exact wp_ret ⟨rfl, H.dropOwn (List.Sublist.cons_cons _ (List.nil_sublist _))⟩
  · rw [if_neg hc]
    obtain ⟨rfl, K⟩ := q.1 hc
    repeat (first | refine wp_gop_t ?_ | refine wp_gop_f rfl ?_ | refine wp_gop_u ?_ | refine wp_gcall_t ?_ | refine wp_gcall_f rfl ?_ | refine wp_gcall_u ?_ | refine wp_ite_t ?_ | refine wp_ite_f ?_ | refine wp_faddr ?_ | refine wp_nilchk ?_ | refine wp_op (o := .mv _) rfl ?_ | refine wp_op (o := .pick _ _ _) rfl ?_ | refine wp_op (o := .extract _ _) rfl ?_)
    refine wp_neq_t hc ?_
    repeat (first | refine wp_gop_t ?_ | refine wp_gop_f rfl ?_ | refine wp_gop_u ?_ | refine wp_gcall_t ?_ | refine wp_gcall_f rfl ?_ | refine wp_gcall_u ?_ | refine wp_ite_t ?_ | refine wp_ite_f ?_ | refine wp_faddr ?_ | refine wp_nilchk ?_ | refine wp_op (o := .mv _) rfl ?_ | refine wp_op (o := .pick _ _ _) rfl ?_ | refine wp_op (o := .extract _ _) rfl ?_)
    exact wp_ret ⟨rfl, ((Cx.enter (ro := []) (by simp)).grow K).addOwn (Grows.refl _) (.inl ⟨rfl, rfl⟩) (by simp [Own.ids, vids, nth, oneOf])⟩

/-- how the program says what is left: by the diary -/
theorem mem_pend {h : List Evt} {id : Int} (hc : chk h = 0) : id ∈ pend h ↔ (∃ x ∈ h, x.id = id ∧ x.ans = false) ∧ atIx h id true < 0 := by
  unfold pend
  rw [if_pos hc]
  have hmem : ∀ n, n ≤ h.length → ∀ p : Evt × Nat, p ∈ callsN h n ↔ ∃ j, j < n ∧ ∃ hj : j < h.length, h[j].ans = false ∧ p = (h[j], j) := by
    intro n
    induction n with
    | zero => intro _ p; simp [callsN]
    | succ n ih =>
      intro hn p
      have hlt : n < h.length := by omega
      rw [callsN_succ hlt]
      cases ha : h[n].ans with
      | true =>
        rw [if_pos rfl, ih (by omega)]
        constructor
        · rintro ⟨j, h1, h2⟩; exact ⟨j, by omega, h2⟩
        · rintro ⟨j, h1, hj, h2, h3⟩
          by_cases e : j = n
          · subst e; rw [ha] at h2; cases h2
          · exact ⟨j, by omega, hj, h2, h3⟩
      | false =>
        rw [if_neg (by simp), List.mem_append, ih (by omega), List.mem_singleton]
        constructor
        · rintro (⟨j, h1, h2⟩ | rfl)
          · exact ⟨j, by omega, h2⟩
          · exact ⟨n, by omega, hlt, ha, rfl⟩
        · rintro ⟨j, h1, hj, h2, h3⟩
          by_cases e : j = n
          · subst e; exact .inr h3
          · exact .inl ⟨j, by omega, hj, h2, h3⟩
  unfold pendL
  simp only [List.mem_map, List.mem_filter, decide_eq_true_eq]
  constructor
  · rintro ⟨p, ⟨h1, h2⟩, rfl⟩
    obtain ⟨j, _, hj, h3, rfl⟩ := (hmem _ (Nat.le_refl _) p).1 h1
    exact ⟨⟨h[j], List.getElem_mem hj, rfl, h3⟩, h2⟩
  · rintro ⟨⟨x, hx, rfl, h3⟩, h2⟩
    obtain ⟨j, hj, rfl⟩ := List.mem_iff_getElem.1 hx
    exact ⟨(h[j], j), ⟨(hmem _ (Nat.le_refl _) _).2 ⟨j, hj, hj, h3, rfl⟩, h2⟩, rfl⟩
theorem not_pend {h : List Evt} {d : List (Int × AV)} (hc : chk h = 0) (hd : Dia h d) {x : Evt} (hx : x ∈ h) : x.id ∈ pend h ↔ ¬ 0 ≤ atIx h x.id true := by
  rw [mem_pend hc]
  constructor
  · rintro ⟨_, h2⟩; omega
  · intro h0
    refine ⟨?_, by omega⟩
    cases ha : x.ans with
    | false => exact ⟨x, hx, rfl, ha⟩
    | true => exact absurd (atIx_iff.2 ⟨x, hx, rfl, ha⟩) h0

theorem whole_ok {S : AH} {v : AV} {h : List Evt} (hv : RoSl S v 9 (evs h)) : wpC EM (.fn (.func 26) [] []) [v] S fun r S' =>
    (chk h ≠ 0 → r = .tup [Ns, I (chk h)] ∧ Grows S S') ∧ (chk h = 0 → ∃ w, r = .tup [w, I 0] ∧ Cx S [] S' [.sl w 9 (evs (whole h))] []) := by
  refine wpC_fn (b := Try.a26) rfl rfl ?_
  have H := Cx.ro1 hv
  unfold Try.a26
  refine wp_call (wpC_mono (read_ok hv) fun r S1 q => ?_)
  by_cases hc : chk h = 0
  · obtain ⟨id, d, rfl, hd, K⟩ := q.2 hc
    have hlen := chk_len hc
    replace H : Cx S [] S1 [.obj id (.map (ment d))] [.sl v 9 (evs h)] := H.addOwn K.grows (K.oh _ (List.Mem.head _)) fun j hj => by
      have := K.oi _ (List.Mem.head _) j hj
      refine ⟨?_, this.1⟩
      by_cases hlt : j < S.next
      · have := this.2 hlt; simp at this
      · omega
    replace H := H.freezeOb (i := 0) rfl
    repeat (first | refine wp_gop_t ?_ | refine wp_gop_f rfl ?_ | refine wp_gop_u ?_ | refine wp_gcall_t ?_ | refine wp_gcall_f rfl ?_ | refine wp_gcall_u ?_ | refine wp_ite_t ?_ | refine wp_ite_f ?_ | refine wp_faddr ?_ | refine wp_nilchk ?_ | refine wp_op (o := .mv _) rfl ?_ | refine wp_op (o := .pick _ _ _) rfl ?_ | refine wp_op (o := .extract _ _) rfl ?_)
    refine wp_neq_f rfl ?_
    repeat (first | refine wp_gop_t ?_ | refine wp_gop_f rfl ?_ | refine wp_gop_u ?_ | refine wp_gcall_t ?_ | refine wp_gcall_f rfl ?_ | refine wp_gcall_u ?_ | refine wp_ite_t ?_ | refine wp_ite_f ?_ | refine wp_faddr ?_ | refine wp_nilchk ?_ | refine wp_op (o := .mv _) rfl ?_ | refine wp_op (o := .pick _ _ _) rfl ?_ | refine wp_op (o := .extract _ _) rfl ?_)
    refine wp_len H (by repeat (first | exact List.Mem.head _ | apply List.Mem.tail)) ?_
    rw [evs_len]
    refine wp_bind (wp_loop (wpL_for h.length (fun i vs S1 => ∃ u : AV, vs = [I (i : Int), u] ∧ Cx S [] S1 [.sl u 9 (evs ((h.take i).filter fun x => !decide (x.id ∈ pend h)))] [.ob id (.map (ment d)), .sl v 9 (evs h)]) ?_ ?_ ⟨Ns, rfl, H.addOwn (Grows.refl _) (.inl ⟨rfl, rfl⟩) (by simp [Own.ids, vids])⟩))
    · rintro i vs S1 hlt ⟨u, rfl, H⟩
      have htk : h.take (i + 1) = h.take i ++ [h[i]] := List.take_succ_eq_append_getElem hlt
      have hfl : ((h.take i).filter fun x => !decide (x.id ∈ pend h)).length ≤ i := Nat.le_trans (List.length_filter_le _ _) (by rw [List.length_take]; omega)
      have hp := not_pend hc hd (List.getElem_mem hlt)
      refine wp_lss_t (by omega) ?_
      repeat (first | refine wp_gop_t ?_ | refine wp_gop_f rfl ?_ | refine wp_gop_u ?_ | refine wp_gcall_t ?_ | refine wp_gcall_f rfl ?_ | refine wp_gcall_u ?_ | refine wp_ite_t ?_ | refine wp_ite_f ?_ | refine wp_faddr ?_ | refine wp_nilchk ?_ | refine wp_op (o := .mv _) rfl ?_ | refine wp_op (o := .pick _ _ _) rfl ?_ | refine wp_op (o := .extract _ _) rfl ?_)
      refine wp_bind ?_
      refine wp_saddr (i := i) H (by repeat (first | exact List.Mem.head _ | apply List.Mem.tail)) (evs_get hlt) fun p off H => ?_
      refine wp_loada H (cs := h[i].cs) (by repeat (first | exact List.Mem.head _ | apply List.Mem.tail)) (Nat.le_of_ble_eq_true rfl) ?_
      refine wp_alloc H fun b S3 H => ?_
      refine wp_store H 0 rfl rfl rfl (Nat.le_of_ble_eq_true rfl) fun S4 H => ?_
      replace H : Cx S [] S4 _ (.pt b 0 h[i].cs :: _) := H.freeze (i := 0) (c := h[i].cs) rfl
      repeat (first | refine wp_gop_t ?_ | refine wp_gop_f rfl ?_ | refine wp_gop_u ?_ | refine wp_gcall_t ?_ | refine wp_gcall_f rfl ?_ | refine wp_gcall_u ?_ | refine wp_ite_t ?_ | refine wp_ite_f ?_ | refine wp_faddr ?_ | refine wp_nilchk ?_ | refine wp_op (o := .mv _) rfl ?_ | refine wp_op (o := .pick _ _ _) rfl ?_ | refine wp_op (o := .extract _ _) rfl ?_)
      refine wp_load1 H (cs := h[i].cs) (by repeat (first | exact List.Mem.head _ | apply List.Mem.tail)) rfl ?_
      refine wp_lookupR H und3 (by repeat (first | exact List.Mem.head _ | apply List.Mem.tail)) ?_
      have hf : 0 ≤ atIx h h[i].id false := by
        cases ha : h[i].ans with
        | false => exact atIx_iff.2 ⟨h[i], List.getElem_mem hlt, rfl, ha⟩
        | true => exact hd.2 _ (atIx_iff.2 ⟨h[i], List.getElem_mem hlt, rfl, ha⟩)
      rw [hd.1, if_pos hf]
      refine wp_op (v := I (atIx h h[i].id true)) rfl ?_
      refine wp_geq (fun h0 => ?_) (fun h0 => ?_)
      · have hn : h[i].id ∉ pend h := fun hm => hp.1 hm h0
        refine wp_bind ?_
        repeat (first | refine wp_gop_t ?_ | refine wp_gop_f rfl ?_ | refine wp_gop_u ?_ | refine wp_gcall_t ?_ | refine wp_gcall_f rfl ?_ | refine wp_gcall_u ?_ | refine wp_ite_t ?_ | refine wp_ite_f ?_ | refine wp_faddr ?_ | refine wp_nilchk ?_ | refine wp_op (o := .mv _) rfl ?_ | refine wp_op (o := .pick _ _ _) rfl ?_ | refine wp_op (o := .extract _ _) rfl ?_)
        refine wp_loada H (cs := h[i].cs) (by repeat (first | exact List.Mem.head _ | apply List.Mem.tail)) (Nat.le_of_ble_eq_true rfl) ?_
        refine wp_push H 0 rfl rfl rfl rfl (by rw [evs_len]; unfold maxBytes; omega) (by rw [evs_len]; unfold maxLenN; omega) fun u1 S4 H => ?_
        refine wp_ret (wp_ret ?_)
        show wp EM _ _ _
        refine wp_add64 (by omega) (by omega) (wp_ret (.inl ⟨rfl, u1, rfl, ?_⟩))
        rw [htk, List.filter_append, evs_append]
        have e : evs (List.filter (fun x => !decide (x.id ∈ pend h)) [h[i]]) = [h[i].cs] := by simp [hn, evs]
        rw [e]
        exact H.tl.tl
      · have hn : h[i].id ∈ pend h := hp.2 (by omega)
        refine wp_bind ?_
        repeat (first | refine wp_gop_t ?_ | refine wp_gop_f rfl ?_ | refine wp_gop_u ?_ | refine wp_gcall_t ?_ | refine wp_gcall_f rfl ?_ | refine wp_gcall_u ?_ | refine wp_ite_t ?_ | refine wp_ite_f ?_ | refine wp_faddr ?_ | refine wp_nilchk ?_ | refine wp_op (o := .mv _) rfl ?_ | refine wp_op (o := .pick _ _ _) rfl ?_ | refine wp_op (o := .extract _ _) rfl ?_)
        refine wp_ret (wp_ret ?_)
        show wp EM _ _ _
        refine wp_add64 (by omega) (by omega) (wp_ret (.inl ⟨rfl, u, rfl, ?_⟩))
        rw [htk, List.filter_append]
        simpa [hn] using H.tl.tl
    · rintro vs S1 ⟨u, rfl, H⟩
      refine wp_lss_f (by omega) ?_
      repeat (first | refine wp_gop_t ?_ | refine wp_gop_f rfl ?_ | refine wp_gop_u ?_ | refine wp_gcall_t ?_ | refine wp_gcall_f rfl ?_ | refine wp_gcall_u ?_ | refine wp_ite_t ?_ | refine wp_ite_f ?_ | refine wp_faddr ?_ | refine wp_nilchk ?_ | refine wp_op (o := .mv _) rfl ?_ | refine wp_op (o := .pick _ _ _) rfl ?_ | refine wp_op (o := .extract _ _) rfl ?_)
      refine wp_ret ⟨by simp, wp_ret ⟨rfl, fun e => absurd hc e, fun _ => ⟨u, rfl, ?_⟩⟩⟩
      rw [List.take_length] at H
      exact H.tl.tl
  · obtain ⟨rfl, K⟩ := q.1 hc
    repeat (first | refine wp_gop_t ?_ | refine wp_gop_f rfl ?_ | refine wp_gop_u ?_ | refine wp_gcall_t ?_ | refine wp_gcall_f rfl ?_ | refine wp_gcall_u ?_ | refine wp_ite_t ?_ | refine wp_ite_f ?_ | refine wp_faddr ?_ | refine wp_nilchk ?_ | refine wp_op (o := .mv _) rfl ?_ | refine wp_op (o := .pick _ _ _) rfl ?_ | refine wp_op (o := .extract _ _) rfl ?_)
    refine wp_neq_t hc ?_
    repeat (first | refine wp_gop_t ?_ | refine wp_gop_f rfl ?_ | refine wp_gop_u ?_ | refine wp_gcall_t ?_ | refine wp_gcall_f rfl ?_ | refine wp_gcall_u ?_ | refine wp_ite_t ?_ | refine wp_ite_f ?_ | refine wp_faddr ?_ | refine wp_nilchk ?_ | refine wp_op (o := .mv _) rfl ?_ | refine wp_op (o := .pick _ _ _) rfl ?_ | refine wp_op (o := .extract _ _) rfl ?_)
    exact wp_ret ⟨rfl, fun _ => ⟨rfl, K⟩, fun e => absurd e hc⟩
end Go.Abs
namespace Go.Abs
open Go.Proofs
set_option maxRecDepth 100000
theorem mostN_le (h : List Evt) : ∀ i : Nat, (mostN h i).2 ≤ (mostN h i).1
  | 0 => Int.le_refl _
  | i + 1 => by
    unfold mostN
    split
    · simp only; omega
    · exact mostN_le h i
theorem most_ok {S : AH} {v : AV} {h : List Evt} (hv : RoSl S v 9 (evs h)) : wpC EM (.fn (.func 11) [] []) [v] S fun r S' => r = I (most h) ∧ Grows S S' := by
  refine wpC_fn (b := Try.a11) rfl rfl ?_
  have H := Cx.ro1 hv
  unfold Try.a11 most
  refine wp_callV H (check_ok hv) fun S1 H => ?_
  refine wp_neq (fun hne => ?_) (fun he => ?_)
  · rw [if_neg hne]
    repeat (first | refine wp_gop_t ?_ | refine wp_gop_f rfl ?_ | refine wp_gop_u ?_ | refine wp_gcall_t ?_ | refine wp_gcall_f rfl ?_ | refine wp_gcall_u ?_ | refine wp_ite_t ?_ | refine wp_ite_f ?_ | refine wp_faddr ?_ | refine wp_nilchk ?_ | refine wp_op (o := .mv _) rfl ?_ | refine wp_op (o := .pick _ _ _) rfl ?_ | refine wp_op (o := .extract _ _) rfl ?_)
    exact wp_ret ⟨rfl, rfl, H.grows⟩
  rw [if_pos he]
  have hlen := chk_len he
  repeat (first | refine wp_gop_t ?_ | refine wp_gop_f rfl ?_ | refine wp_gop_u ?_ | refine wp_gcall_t ?_ | refine wp_gcall_f rfl ?_ | refine wp_gcall_u ?_ | refine wp_ite_t ?_ | refine wp_ite_f ?_ | refine wp_faddr ?_ | refine wp_nilchk ?_ | refine wp_op (o := .mv _) rfl ?_ | refine wp_op (o := .pick _ _ _) rfl ?_ | refine wp_op (o := .extract _ _) rfl ?_)
  refine wp_len H (by repeat (first | exact List.Mem.head _ | apply List.Mem.tail)) ?_
  rw [evs_len]
  refine wp_bind (wp_loop (wpL_for h.length (fun i vs S1 => vs = [I (i : Int), I (mostN h i).1, I (mostN h i).2] ∧ Cx S [] S1 [] [.sl v 9 (evs h)]) ?_ ?_ ⟨rfl, H⟩))
  · rintro i vs S1 hlt ⟨rfl, H⟩
    have hbd := mostN_bd h i
    have hle := mostN_le h i
    refine wp_lss_t (by omega) ?_
    repeat (first | refine wp_gop_t ?_ | refine wp_gop_f rfl ?_ | refine wp_gop_u ?_ | refine wp_gcall_t ?_ | refine wp_gcall_f rfl ?_ | refine wp_gcall_u ?_ | refine wp_ite_t ?_ | refine wp_ite_f ?_ | refine wp_faddr ?_ | refine wp_nilchk ?_ | refine wp_op (o := .mv _) rfl ?_ | refine wp_op (o := .pick _ _ _) rfl ?_ | refine wp_op (o := .extract _ _) rfl ?_)
    refine wp_bind ?_
    refine wp_saddr (i := i) H (by repeat (first | exact List.Mem.head _ | apply List.Mem.tail)) (evs_get hlt) fun p off H => ?_
    refine wp_loada H (cs := h[i].cs) (by repeat (first | exact List.Mem.head _ | apply List.Mem.tail)) (Nat.le_of_ble_eq_true rfl) ?_
    refine wp_alloc H fun b S3 H => ?_
    refine wp_store H 0 rfl rfl rfl (Nat.le_of_ble_eq_true rfl) fun S4 H => ?_
    replace H : Cx S [] S4 [] (.pt b 0 h[i].cs :: _) := H.freeze (i := 0) (c := h[i].cs) rfl
    repeat (first | refine wp_gop_t ?_ | refine wp_gop_f rfl ?_ | refine wp_gop_u ?_ | refine wp_gcall_t ?_ | refine wp_gcall_f rfl ?_ | refine wp_gcall_u ?_ | refine wp_ite_t ?_ | refine wp_ite_f ?_ | refine wp_faddr ?_ | refine wp_nilchk ?_ | refine wp_op (o := .mv _) rfl ?_ | refine wp_op (o := .pick _ _ _) rfl ?_ | refine wp_op (o := .extract _ _) rfl ?_)
    refine wp_load1 H (cs := h[i].cs) (by repeat (first | exact List.Mem.head _ | apply List.Mem.tail)) rfl ?_
    cases ha : h[i].ans with
    | true =>
      repeat (first | refine wp_gop_t ?_ | refine wp_gop_f rfl ?_ | refine wp_gop_u ?_ | refine wp_gcall_t ?_ | refine wp_gcall_f rfl ?_ | refine wp_gcall_u ?_ | refine wp_ite_t ?_ | refine wp_ite_f ?_ | refine wp_faddr ?_ | refine wp_nilchk ?_ | refine wp_op (o := .mv _) rfl ?_ | refine wp_op (o := .pick _ _ _) rfl ?_ | refine wp_op (o := .extract _ _) rfl ?_)
      refine wp_sub64 (by omega) (by omega) ?_
      refine wp_ret ?_
      show wp EM _ _ _
      refine wp_add64 (by omega) (by omega) (wp_ret (.inl ⟨rfl, ?_, H.tl.tl⟩))
      have : mostN h (i + 1) = ((mostN h i).1, (mostN h i).2 - 1) := by
        conv => lhs; unfold mostN
        simp [hlt, ha]; omega
      rw [this]; rfl
    | false =>
      repeat (first | refine wp_gop_t ?_ | refine wp_gop_f rfl ?_ | refine wp_gop_u ?_ | refine wp_gcall_t ?_ | refine wp_gcall_f rfl ?_ | refine wp_gcall_u ?_ | refine wp_ite_t ?_ | refine wp_ite_f ?_ | refine wp_faddr ?_ | refine wp_nilchk ?_ | refine wp_op (o := .mv _) rfl ?_ | refine wp_op (o := .pick _ _ _) rfl ?_ | refine wp_op (o := .extract _ _) rfl ?_)
      refine wp_add64 (by omega) (by omega) ?_
      refine wp_op e_max ?_
      refine wp_ret ?_
      show wp EM _ _ _
      refine wp_add64 (by omega) (by omega) (wp_ret (.inl ⟨rfl, ?_, H.tl.tl⟩))
      have : mostN h (i + 1) = (max (mostN h i).1 ((mostN h i).2 + 1), (mostN h i).2 + 1) := by
        conv => lhs; unfold mostN
        simp [hlt, ha]
      rw [this]; rfl
  · rintro vs S1 ⟨rfl, H⟩
    refine wp_lss_f (by omega) ?_
    repeat (first | refine wp_gop_t ?_ | refine wp_gop_f rfl ?_ | refine wp_gop_u ?_ | refine wp_gcall_t ?_ | refine wp_gcall_f rfl ?_ | refine wp_gcall_u ?_ | refine wp_ite_t ?_ | refine wp_ite_f ?_ | refine wp_faddr ?_ | refine wp_nilchk ?_ | refine wp_op (o := .mv _) rfl ?_ | refine wp_op (o := .pick _ _ _) rfl ?_ | refine wp_op (o := .extract _ _) rfl ?_)
    exact wp_ret ⟨by simp, wp_ret ⟨rfl, rfl, H.grows⟩⟩

def wanted (l : List Int) : List (Int × AV) := l.foldl (fun m k => mset m k (.agg [])) []
theorem wanted_snoc (l : List Int) (k : Int) : wanted (l ++ [k]) = mset (wanted l) k (.agg []) := by simp [wanted]
theorem wanted_get (l : List Int) (k : Int) : mget (wanted l) k = if k ∈ l then some (.agg []) else none := by
  have : ∀ (r : List Int), mget (wanted r.reverse) k = if k ∈ r then some (.agg []) else none := by
    intro r
    induction r with
    | nil => rfl
    | cons a r ih =>
      rw [List.reverse_cons, wanted_snoc, mget_mset, ih]
      by_cases e : a = k
      · subst e; simp
      · have e2 : k ≠ a := fun h => e h.symm
        simp [e, e2]
  have h := this l.reverse
  rw [List.reverse_reverse] at h
  rw [h]; simp
theorem only_ok {S : AH} {v v' : AV} {h : List Evt} {l : List Int} (hv : RoSl S v 9 (evs h)) (hv' : RoSl S v' 1 (ints l)) (hlen : h.length ≤ 100000) (hl : l.length < 4611686018427387904) :
    wpC EM (.fn (.func 28) [] []) [v, v'] S fun r S' => Cx S [] S' [.sl r 9 (evs (only h l))] [] := by
  refine wpC_fn (b := Try.a28) rfl rfl ?_
  have H := Cx.ro2 hv hv'
  unfold Try.a28
  refine wp_mkmap H fun id S1 H => ?_
  refine wp_len H (es := 1) (L := ints l) (by repeat (first | exact List.Mem.head _ | apply List.Mem.tail)) ?_
  rw [ints_len]
  refine wp_bind (wp_loop (wpL_for l.length (fun i vs S1 => vs = [I (i : Int)] ∧ Cx S [] S1 [.obj id (.map (ment (wanted (l.take i))))] [.sl v 9 (evs h), .sl v' 1 (ints l)]) ?_ ?_ ⟨rfl, H⟩))
  · rintro i vs S1 hlt ⟨rfl, H⟩
    refine wp_lss_t (by omega) ?_
    repeat (first | refine wp_gop_t ?_ | refine wp_gop_f rfl ?_ | refine wp_gop_u ?_ | refine wp_gcall_t ?_ | refine wp_gcall_f rfl ?_ | refine wp_gcall_u ?_ | refine wp_ite_t ?_ | refine wp_ite_f ?_ | refine wp_faddr ?_ | refine wp_nilchk ?_ | refine wp_op (o := .mv _) rfl ?_ | refine wp_op (o := .pick _ _ _) rfl ?_ | refine wp_op (o := .extract _ _) rfl ?_)
    refine wp_bind ?_
    refine wp_saddr (i := i) (x := [I l[i]]) (L := ints l) H (by repeat (first | exact List.Mem.head _ | apply List.Mem.tail)) (by simp [ints, hlt]) fun p off H => ?_
    refine wp_load0 H (cs := [I l[i]]) (by repeat (first | exact List.Mem.head _ | apply List.Mem.tail)) rfl ?_
    refine wp_op (v := .agg []) rfl ?_
    refine wp_mapset H 0 und3 rfl fun S2 H => ?_
    refine wp_ret ?_
    show wp EM _ _ _
    refine wp_add64 (by omega) (by omega) (wp_ret (.inl ⟨rfl, rfl, ?_⟩))
    rw [List.take_succ_eq_append_getElem hlt, wanted_snoc]
    exact H.tl
  · rintro vs S1 ⟨rfl, H⟩
    rw [List.take_length] at H
    refine wp_lss_f (by omega) ?_
    repeat (first | refine wp_gop_t ?_ | refine wp_gop_f rfl ?_ | refine wp_gop_u ?_ | refine wp_gcall_t ?_ | refine wp_gcall_f rfl ?_ | refine wp_gcall_u ?_ | refine wp_ite_t ?_ | refine wp_ite_f ?_ | refine wp_faddr ?_ | refine wp_nilchk ?_ | refine wp_op (o := .mv _) rfl ?_ | refine wp_op (o := .pick _ _ _) rfl ?_ | refine wp_op (o := .extract _ _) rfl ?_)
    refine wp_ret ⟨by simp, ?_⟩
    show wp EM _ _ _
    refine wp_len H (es := 9) (L := evs h) (by repeat (first | exact List.Mem.head _ | apply List.Mem.tail)) ?_
    rw [evs_len]
    refine wp_bind (wp_loop (wpL_for h.length (fun i vs S1 => ∃ u : AV, vs = [I (i : Int), u] ∧ Cx S [] S1 [.sl u 9 (evs ((h.take i).filter fun x => decide (x.id ∈ l))), .obj id (.map (ment (wanted l)))] [.sl v 9 (evs h), .sl v' 1 (ints l)]) ?_ ?_ ⟨Ns, rfl, H.addOwn (Grows.refl _) (.inl ⟨rfl, rfl⟩) (by simp [Own.ids, vids])⟩))
    · rintro i vs S1 hlt ⟨u, rfl, H⟩
      have htk : h.take (i + 1) = h.take i ++ [h[i]] := List.take_succ_eq_append_getElem hlt
      have hfl : ((h.take i).filter fun x => decide (x.id ∈ l)).length ≤ i := Nat.le_trans (List.length_filter_le _ _) (by rw [List.length_take]; omega)
      refine wp_lss_t (by omega) ?_
      repeat (first | refine wp_gop_t ?_ | refine wp_gop_f rfl ?_ | refine wp_gop_u ?_ | refine wp_gcall_t ?_ | refine wp_gcall_f rfl ?_ | refine wp_gcall_u ?_ | refine wp_ite_t ?_ | refine wp_ite_f ?_ | refine wp_faddr ?_ | refine wp_nilchk ?_ | refine wp_op (o := .mv _) rfl ?_ | refine wp_op (o := .pick _ _ _) rfl ?_ | refine wp_op (o := .extract _ _) rfl ?_)
      refine wp_bind ?_
      refine wp_saddr (i := i) H (es := 9) (by repeat (first | exact List.Mem.head _ | apply List.Mem.tail)) (evs_get hlt) fun p off H => ?_
      refine wp_loada H (cs := h[i].cs) (by repeat (first | exact List.Mem.head _ | apply List.Mem.tail)) (Nat.le_of_ble_eq_true rfl) ?_
      refine wp_alloc H fun b S3 H => ?_
      refine wp_store H 0 rfl rfl rfl (Nat.le_of_ble_eq_true rfl) fun S4 H => ?_
      replace H : Cx S [] S4 _ (.pt b 0 h[i].cs :: _) := H.freeze (i := 0) (c := h[i].cs) rfl
      repeat (first | refine wp_gop_t ?_ | refine wp_gop_f rfl ?_ | refine wp_gop_u ?_ | refine wp_gcall_t ?_ | refine wp_gcall_f rfl ?_ | refine wp_gcall_u ?_ | refine wp_ite_t ?_ | refine wp_ite_f ?_ | refine wp_faddr ?_ | refine wp_nilchk ?_ | refine wp_op (o := .mv _) rfl ?_ | refine wp_op (o := .pick _ _ _) rfl ?_ | refine wp_op (o := .extract _ _) rfl ?_)
      refine wp_load1 H (cs := h[i].cs) (by repeat (first | exact List.Mem.head _ | apply List.Mem.tail)) rfl ?_
      refine wp_lookup2 H 1 und3 rfl ?_
      repeat (first | refine wp_gop_t ?_ | refine wp_gop_f rfl ?_ | refine wp_gop_u ?_ | refine wp_gcall_t ?_ | refine wp_gcall_f rfl ?_ | refine wp_gcall_u ?_ | refine wp_ite_t ?_ | refine wp_ite_f ?_ | refine wp_faddr ?_ | refine wp_nilchk ?_ | refine wp_op (o := .mv _) rfl ?_ | refine wp_op (o := .pick _ _ _) rfl ?_ | refine wp_op (o := .extract _ _) rfl ?_)
      rw [wanted_get]
      by_cases hm : h[i].id ∈ l
      · rw [if_pos hm]
        refine wp_alloc H fun z S5 H => ?_
        refine wp_store H 0 rfl rfl rfl (Nat.le_of_ble_eq_true rfl) fun S6 H => ?_
        replace H := H.dropAt 0
        refine wp_bind ?_
        repeat (first | refine wp_gop_t ?_ | refine wp_gop_f rfl ?_ | refine wp_gop_u ?_ | refine wp_gcall_t ?_ | refine wp_gcall_f rfl ?_ | refine wp_gcall_u ?_ | refine wp_ite_t ?_ | refine wp_ite_f ?_ | refine wp_faddr ?_ | refine wp_nilchk ?_ | refine wp_op (o := .mv _) rfl ?_ | refine wp_op (o := .pick _ _ _) rfl ?_ | refine wp_op (o := .extract _ _) rfl ?_)
        refine wp_loada H (cs := h[i].cs) (by repeat (first | exact List.Mem.head _ | apply List.Mem.tail)) (Nat.le_of_ble_eq_true rfl) ?_
        refine wp_push H 0 rfl rfl rfl rfl (by rw [evs_len]; unfold maxBytes; omega) (by rw [evs_len]; unfold maxLenN; omega) fun u1 S4 H => ?_
        refine wp_ret (wp_ret ?_)
        show wp EM _ _ _
        refine wp_add64 (by omega) (by omega) (wp_ret (.inl ⟨rfl, u1, rfl, ?_⟩))
        rw [htk, List.filter_append, evs_append]
        have e : evs (List.filter (fun x => decide (x.id ∈ l)) [h[i]]) = [h[i].cs] := by simp [hm, evs]
        rw [e]
        exact H.tl.tl
      · rw [if_neg hm]
        refine wp_alloc H fun z S5 H => ?_
        refine wp_store H 0 rfl rfl rfl (Nat.le_of_ble_eq_true rfl) fun S6 H => ?_
        replace H := H.dropAt 0
        refine wp_bind ?_
        repeat (first | refine wp_gop_t ?_ | refine wp_gop_f rfl ?_ | refine wp_gop_u ?_ | refine wp_gcall_t ?_ | refine wp_gcall_f rfl ?_ | refine wp_gcall_u ?_ | refine wp_ite_t ?_ | refine wp_ite_f ?_ | refine wp_faddr ?_ | refine wp_nilchk ?_ | refine wp_op (o := .mv _) rfl ?_ | refine wp_op (o := .pick _ _ _) rfl ?_ | refine wp_op (o := .extract _ _) rfl ?_)
        refine wp_ret (wp_ret ?_)
        show wp EM _ _ _
        refine wp_add64 (by omega) (by omega) (wp_ret (.inl ⟨rfl, u, rfl, ?_⟩))
        rw [htk, List.filter_append]
        have e : List.filter (fun x => decide (x.id ∈ l)) [h[i]] = [] := by simp [hm]
        rw [e, List.append_nil]
        exact H.tl.tl
    · rintro vs S1 ⟨u, rfl, H⟩
      refine wp_lss_f (by omega) ?_
      repeat (first | refine wp_gop_t ?_ | refine wp_gop_f rfl ?_ | refine wp_gop_u ?_ | refine wp_gcall_t ?_ | refine wp_gcall_f rfl ?_ | refine wp_gcall_u ?_ | refine wp_ite_t ?_ | refine wp_ite_f ?_ | refine wp_faddr ?_ | refine wp_nilchk ?_ | refine wp_op (o := .mv _) rfl ?_ | refine wp_op (o := .pick _ _ _) rfl ?_ | refine wp_op (o := .extract _ _) rfl ?_)
      refine wp_ret ⟨by simp, wp_ret ⟨rfl, ?_⟩⟩
      rw [List.take_length] at H
      exact (H.dropOwn (own' := [.sl u 9 (evs (only h l))]) (List.Sublist.cons_cons _ (List.nil_sublist _))).tl.tl

theorem ahead_ok {S : AH} {x y : List AV} {a b : Int} (hx : x.length = 10) (hy : y.length = 10) (h2 : x[2]? = some (I a)) (h1 : y[1]? = some (I b)) : wpC EM (.fn (.func 32) [] []) [.agg x, .agg y] S fun r S' => r = B (decide (0 ≤ a ∧ a < b)) ∧ Grows S S' := by
  refine wpC_fn (b := Try.a32) rfl rfl ?_
  have H : Cx S [] S [] [] := Cx.enter (by simp)
  unfold Try.a32
  refine wp_box H rfl fun p S1 H => ?_
  refine wp_box H rfl fun q S2 H => ?_
  repeat (first | refine wp_gop_t ?_ | refine wp_gop_f rfl ?_ | refine wp_gop_u ?_ | refine wp_gcall_t ?_ | refine wp_gcall_f rfl ?_ | refine wp_gcall_u ?_ | refine wp_ite_t ?_ | refine wp_ite_f ?_ | refine wp_faddr ?_ | refine wp_nilchk ?_ | refine wp_op (o := .mv _) rfl ?_ | refine wp_op (o := .pick _ _ _) rfl ?_ | refine wp_op (o := .extract _ _) rfl ?_)
  refine wp_load1 H (cs := x) (by repeat (first | exact List.Mem.head _ | apply List.Mem.tail)) h2 ?_
  refine wp_geq (fun h0 => ?_) (fun h0 => ?_)
  · repeat (first | refine wp_gop_t ?_ | refine wp_gop_f rfl ?_ | refine wp_gop_u ?_ | refine wp_gcall_t ?_ | refine wp_gcall_f rfl ?_ | refine wp_gcall_u ?_ | refine wp_ite_t ?_ | refine wp_ite_f ?_ | refine wp_faddr ?_ | refine wp_nilchk ?_ | refine wp_op (o := .mv _) rfl ?_ | refine wp_op (o := .pick _ _ _) rfl ?_ | refine wp_op (o := .extract _ _) rfl ?_)
    refine wp_load1 H (cs := x) (by repeat (first | exact List.Mem.head _ | apply List.Mem.tail)) h2 ?_
    repeat (first | refine wp_gop_t ?_ | refine wp_gop_f rfl ?_ | refine wp_gop_u ?_ | refine wp_gcall_t ?_ | refine wp_gcall_f rfl ?_ | refine wp_gcall_u ?_ | refine wp_ite_t ?_ | refine wp_ite_f ?_ | refine wp_faddr ?_ | refine wp_nilchk ?_ | refine wp_op (o := .mv _) rfl ?_ | refine wp_op (o := .pick _ _ _) rfl ?_ | refine wp_op (o := .extract _ _) rfl ?_)
    refine wp_load1 H (cs := y) (by repeat (first | exact List.Mem.head _ | apply List.Mem.tail)) h1 ?_
    repeat (first | refine wp_gop_t ?_ | refine wp_gop_f rfl ?_ | refine wp_gop_u ?_ | refine wp_gcall_t ?_ | refine wp_gcall_f rfl ?_ | refine wp_gcall_u ?_ | refine wp_ite_t ?_ | refine wp_ite_f ?_ | refine wp_faddr ?_ | refine wp_nilchk ?_ | refine wp_op (o := .mv _) rfl ?_ | refine wp_op (o := .pick _ _ _) rfl ?_ | refine wp_op (o := .extract _ _) rfl ?_)
    refine wp_lss (fun hl => ?_) (fun hl => ?_)
    · repeat (first | refine wp_gop_t ?_ | refine wp_gop_f rfl ?_ | refine wp_gop_u ?_ | refine wp_gcall_t ?_ | refine wp_gcall_f rfl ?_ | refine wp_gcall_u ?_ | refine wp_ite_t ?_ | refine wp_ite_f ?_ | refine wp_faddr ?_ | refine wp_nilchk ?_ | refine wp_op (o := .mv _) rfl ?_ | refine wp_op (o := .pick _ _ _) rfl ?_ | refine wp_op (o := .extract _ _) rfl ?_)
      exact wp_ret ⟨rfl, by rw [decide_eq_true ⟨h0, hl⟩]; rfl, H.grows⟩
    · repeat (first | refine wp_gop_t ?_ | refine wp_gop_f rfl ?_ | refine wp_gop_u ?_ | refine wp_gcall_t ?_ | refine wp_gcall_f rfl ?_ | refine wp_gcall_u ?_ | refine wp_ite_t ?_ | refine wp_ite_f ?_ | refine wp_faddr ?_ | refine wp_nilchk ?_ | refine wp_op (o := .mv _) rfl ?_ | refine wp_op (o := .pick _ _ _) rfl ?_ | refine wp_op (o := .extract _ _) rfl ?_)
      exact wp_ret ⟨rfl, by rw [decide_eq_false (by omega)]; rfl, H.grows⟩
  · repeat (first | refine wp_gop_t ?_ | refine wp_gop_f rfl ?_ | refine wp_gop_u ?_ | refine wp_gcall_t ?_ | refine wp_gcall_f rfl ?_ | refine wp_gcall_u ?_ | refine wp_ite_t ?_ | refine wp_ite_f ?_ | refine wp_faddr ?_ | refine wp_nilchk ?_ | refine wp_op (o := .mv _) rfl ?_ | refine wp_op (o := .pick _ _ _) rfl ?_ | refine wp_op (o := .extract _ _) rfl ?_)
    exact wp_ret ⟨rfl, by rw [decide_eq_false (by omega)]; rfl, H.grows⟩
end Go.Abs
namespace Go.Abs
open Go.Proofs
set_option maxRecDepth 100000
def ksE : List (Option IntKind) := [some .i64, none, some .i64, some .i64, some .i64, some .u64, some .i64, some .i64, some .u64]
def ksS : List (Option IntKind) := [some .i64, some .i64, some .i64, some .i64, some .i64, some .i64, some .u64, some .i64, some .i64, some .u64]
theorem flatE : flatT EM.P 10 29 = some ksE := by kernel_rfl
theorem flatS : flatT EM.P 10 57 = some ksS := by kernel_rfl
theorem strE : isStructB EM.P 29 = true := by kernel_rfl
theorem strS : isStructB EM.P 57 = true := by kernel_rfl
theorem grdE : EM.P.eqGuardType EM.P.depth 29 = false := by kernel_rfl
theorem grdS : EM.P.eqGuardType EM.P.depth 57 = false := by kernel_rfl
def Evt.vs (x : Evt) : List Value := [.int .i64 x.id, .bool x.ans, .int .i64 x.a1, .int .i64 x.a2, .int .i64 x.a3, .int .u64 x.a4, .int .i64 x.b1, .int .i64 x.b2, .int .u64 x.b3]
theorem evs_scs (h : List Evt) : evs h = (h.map Evt.vs).map scs := by
  unfold evs
  rw [List.map_map]
  rfl
def ansV (h : List Evt) (to : Int) : List Value := if 0 ≤ to then (match h[to.toNat]? with | some y => [.int .i64 y.b1, .int .i64 y.b2, .int .u64 y.b3] | none => [.int .i64 0, .int .i64 0, .int .u64 0]) else [.int .i64 0, .int .i64 0, .int .u64 0]
def spanV (h : List Evt) (p : Evt × Nat) : List Value := [.int .i64 p.1.id, .int .i64 (p.2 : Int), .int .i64 (atIx h p.1.id true), .int .i64 p.1.a1, .int .i64 p.1.a2, .int .i64 p.1.a3, .int .u64 p.1.a4] ++ ansV h (atIx h p.1.id true)
theorem spanV_scs (h : List Evt) (p : Evt × Nat) : spc h p = scs (spanV h p) := by
  unfold spc spanCs spanV ansAt ansV scs
  split
  · generalize h[(atIx h p.1.id true).toNat]? = o
    cases o <;> rfl
  · rfl
theorem spanV_K (h : List Evt) (p : Evt × Nat) : cellsK ksS (spanV h p) = true := by
  unfold spanV ansV
  split
  · split <;> rfl
  · rfl
theorem spansN_scs (h : List Evt) (n : Nat) : spansN h n = ((callsN h n).map (spanV h)).map scs := by
  rw [spansN_eq, List.map_map]
  apply List.map_congr_left
  intro p _
  exact spanV_scs h p

theorem kn14 : EM.kn 14 [] = some (B true) := rfl
theorem awake_ok {S : AH} {Q : Post} {k : AV → AC} (h : wp EM (k (B true)) S Q) : wp EM (.call (.fn (.func 14) [] []) [] k) S Q := wp_call (wpC_kn kn14 h)
theorem known_ok {S : AH} {Q : Post} {k : AV → AC} (h : wp EM (k (B true)) S Q) : wp EM (.call (.fn (.func 6) [] []) [] k) S Q := wp_call (wpC_kn (v := B true) rfl h)

theorem copyE_ok {S : AH} {v : AV} {h : List Evt} (hv : RoSl S v 9 (evs h)) (hl : h.length ≤ 100000) : wpC EM (.fn (.func 12) [] []) [v] S fun r S' => Cx S [] S' [.sl r 9 (evs h)] [] :=
  copy_ok (es := 9) (bytes := 72) (z := [I 0, B false, I 0, I 0, I 0, U 0, I 0, I 0, U 0]) rfl rfl rfl hv (fun x hx => by obtain ⟨y, _, rfl⟩ := List.mem_map.1 hx; rfl) (by rw [evs_len]; unfold maxBytes; omega) (by rw [evs_len]; unfold maxLenN; omega)
theorem copyI_ok {S : AH} {v : AV} {l : List Int} (hv : RoSl S v 1 (ints l)) (hl : l.length ≤ 100000) : wpC EM (.fn (.func 25) [] []) [v] S fun r S' => Cx S [] S' [.sl r 1 (ints l)] [] :=
  copy_ok (es := 1) (bytes := 8) (z := [I 0]) rfl rfl rfl hv (fun x hx => by obtain ⟨y, _, rfl⟩ := List.mem_map.1 hx; rfl) (by rw [ints_len]; unfold maxBytes; omega) (by rw [ints_len]; unfold maxLenN; omega)
theorem sameE_ok {S : AH} {v v' : AV} {h : List Evt} (hv : RoSl S v 9 (evs h)) (hv' : RoSl S v' 9 (evs h)) (hl : h.length ≤ 100000) : wpC EM (.fn (.func 24) [] []) [v, v'] S fun r S' => r = B true ∧ Grows S S' := by
  rw [evs_scs] at hv hv'
  exact sameS_ok (t := 29) (d := 10) (ks := ksE) rfl rfl hv hv' (by rw [List.length_map]; omega) rfl rfl flatE (by omega) strE grdE (fun vs hvs => by obtain ⟨x, _, rfl⟩ := List.mem_map.1 hvs; rfl)
theorem sameSp_ok {S : AH} {v v' : AV} {h : List Evt} {L : List (Evt × Nat)} (hv : RoSl S v 10 (L.map (spc h))) (hv' : RoSl S v' 10 (L.map (spc h))) (hl : L.length ≤ 100000) : wpC EM (.fn (.func 18) [] []) [v, v'] S fun r S' => r = B true ∧ Grows S S' := by
  have e : L.map (spc h) = (L.map (spanV h)).map scs := by
    rw [List.map_map]
    exact List.map_congr_left fun p _ => spanV_scs h p
  rw [e] at hv hv'
  exact sameS_ok (t := 57) (d := 10) (ks := ksS) rfl rfl hv hv' (by rw [List.length_map]; omega) rfl rfl flatS (by omega) strS grdS (fun vs hvs => by obtain ⟨x, _, rfl⟩ := List.mem_map.1 hvs; exact spanV_K h x)
theorem sameN_ok {S : AH} {v v' : AV} {l : List Int} (hv : RoSl S v 1 (ints l)) (hv' : RoSl S v' 1 (ints l)) (hl : l.length ≤ 100000) : wpC EM (.fn (.func 19) [] []) [v, v'] S fun r S' => r = B true ∧ Grows S S' := sameI_ok rfl rfl hv hv' (by omega)
theorem overI_ok {S : AH} {v : AV} {L : List (List AV)} (h : slW S v 1 L) (hid : ∀ id ∈ vids v, id < S.next) (hl : L.length ≤ 100000) : wpC EM (.fn (.func 23) [] []) [v] S fun _ S' => Turned S v 1 L.length S' :=
  over_ok (mk := fun k => k (I (-77))) (y := I (-77)) rfl rfl (fun h => h) rfl rfl h hid (by omega)
theorem overSp_ok {S : AH} {v : AV} {L : List (List AV)} (h : slW S v 10 L) (hid : ∀ id ∈ vids v, id < S.next) (hl : L.length ≤ 100000) : wpC EM (.fn (.func 22) [] []) [v] S fun _ S' => Turned S v 10 L.length S' :=
  over_ok (mk := fun k => .op (.build [I 0, I 0, I 0, I 0, I 0, I 0, U 0, I 0, I 0, U 0] [(0, 1, I (-77))]) k) (y := .agg [I (-77), I 0, I 0, I 0, I 0, I 0, U 0, I 0, I 0, U 0]) rfl rfl (fun h => wp_op rfl h) rfl rfl h hid (by omega)
theorem overE_ok {S : AH} {v : AV} {L : List (List AV)} (h : slW S v 9 L) (hid : ∀ id ∈ vids v, id < S.next) (hl : L.length ≤ 100000) : wpC EM (.fn (.func 30) [] []) [v] S fun _ S' => Turned S v 9 L.length S' :=
  over_ok (mk := fun k => .op (.build [I 0, B false, I 0, I 0, I 0, U 0, I 0, I 0, U 0] [(0, 1, I (-77))]) k) (y := .agg [I (-77), B false, I 0, I 0, I 0, U 0, I 0, I 0, U 0]) rfl rfl (fun h => wp_op rfl h) rfl rfl h hid (by omega)
/-- two results: a slice that is new, or none -/
theorem wp_callTup {B0 S : AH} {W : List Nat} {own : List Own} {ro : List Fct} {Q : Post} {k : AV → AC} (H : Cx B0 W S own ro) {g : AV} {args : List AV} {es : Nat} {L : List (List AV)} {e : Int}
    (hc : wpC EM g args S fun r S' => (e ≠ 0 → r = .tup [Ns, I e] ∧ Grows S S') ∧ (e = 0 → ∃ w, r = .tup [w, I 0] ∧ Cx S [] S' [.sl w es L] [])) (h : ∀ w S1, Cx B0 W S1 (.sl w es (if e = 0 then L else []) :: own) ro → wp EM (k (.tup [w, I e])) S1 Q) : wp EM (.call g args k) S Q := by
  refine wp_call (wpC_mono hc fun r S1 q => ?_)
  by_cases he : e = 0
  · obtain ⟨w, rfl, K⟩ := q.2 he
    have := h w S1 (by
      rw [if_pos he]
      exact H.addOwn K.grows (K.oh _ (List.Mem.head _)) fun j hj => by
        have := K.oi _ (List.Mem.head _) j hj
        refine ⟨?_, this.1⟩
        by_cases hlt : j < S.next
        · have := this.2 hlt; simp at this
        · omega)
    rw [he] at this
    exact this
  · obtain ⟨rfl, K⟩ := q.1 he
    exact h Ns S1 (by
      rw [if_neg he]
      exact (H.grow K).addOwn (Grows.refl _) (.inl ⟨rfl, rfl⟩) (by simp [Own.ids, vids]))

theorem eventCalls_ok {S : AH} {v : AV} {h : List Evt} (hv : RoSl S v 9 (evs h)) : wpC EM (.fn (.func 4) [] []) [v] S fun r _ => r = B true := by
  refine wpC_fn (b := Try.a4) rfl rfl ?_
  have H := Cx.ro1 hv
  unfold Try.a4
  refine wp_len H (by repeat (first | exact List.Mem.head _ | apply List.Mem.tail)) ?_
  rw [evs_len]
  refine wp_gtr (fun hlt => ?_) (fun hge => ?_)
  · repeat (first | refine wp_gop_t ?_ | refine wp_gop_f rfl ?_ | refine wp_gop_u ?_ | refine wp_gcall_t ?_ | refine wp_gcall_f rfl ?_ | refine wp_gcall_u ?_ | refine wp_ite_t ?_ | refine wp_ite_f ?_ | refine wp_faddr ?_ | refine wp_nilchk ?_ | refine wp_op (o := .mv _) rfl ?_ | refine wp_op (o := .pick _ _ _) rfl ?_ | refine wp_op (o := .extract _ _) rfl ?_)
    exact awake_ok (wp_ret ⟨rfl, rfl⟩)
  have hl : h.length ≤ 200 := by omega
  repeat (first | refine wp_gop_t ?_ | refine wp_gop_f rfl ?_ | refine wp_gop_u ?_ | refine wp_gcall_t ?_ | refine wp_gcall_f rfl ?_ | refine wp_gcall_u ?_ | refine wp_ite_t ?_ | refine wp_ite_f ?_ | refine wp_faddr ?_ | refine wp_nilchk ?_ | refine wp_op (o := .mv _) rfl ?_ | refine wp_op (o := .pick _ _ _) rfl ?_ | refine wp_op (o := .extract _ _) rfl ?_)
  refine wp_callN H (copyE_ok (H.roSl (by repeat (first | exact List.Mem.head _ | apply List.Mem.tail))) (by omega)) fun c S1 H => ?_
  refine wp_callTup H (calls_ok (H.ownSl (n := 0) rfl)) fun a S2 H => ?_
  repeat (first | refine wp_gop_t ?_ | refine wp_gop_f rfl ?_ | refine wp_gop_u ?_ | refine wp_gcall_t ?_ | refine wp_gcall_f rfl ?_ | refine wp_gcall_u ?_ | refine wp_ite_t ?_ | refine wp_ite_f ?_ | refine wp_faddr ?_ | refine wp_nilchk ?_ | refine wp_op (o := .mv _) rfl ?_ | refine wp_op (o := .pick _ _ _) rfl ?_ | refine wp_op (o := .extract _ _) rfl ?_)
  refine wp_callTup H (refCalls_ok (H.roSl (by repeat (first | exact List.Mem.head _ | apply List.Mem.tail)))) fun b S3 H => ?_
  repeat (first | refine wp_gop_t ?_ | refine wp_gop_f rfl ?_ | refine wp_gop_u ?_ | refine wp_gcall_t ?_ | refine wp_gcall_f rfl ?_ | refine wp_gcall_u ?_ | refine wp_ite_t ?_ | refine wp_ite_f ?_ | refine wp_faddr ?_ | refine wp_nilchk ?_ | refine wp_op (o := .mv _) rfl ?_ | refine wp_op (o := .pick _ _ _) rfl ?_ | refine wp_op (o := .extract _ _) rfl ?_)
  refine wp_callN H (pending_ok (H.ownSl (n := 2) (v := c) (es := 9) (L := evs h) rfl)) fun p S4 H => ?_
  have e1 : (if chk h = 0 then spansN h h.length else []) = (if chk h = 0 then callsN h h.length else []).map (spc h) := by
    split
    · exact spansN_eq h _
    · rfl
  rw [e1] at H
  have hL : (if chk h = 0 then callsN h h.length else []).length ≤ 200 := by
    split
    · exact Nat.le_trans (callsN_len h h.length) hl
    · simp
  generalize (if chk h = 0 then callsN h h.length else []) = L at H hL
  have hp := pend_len h
  refine wp_callV H (sameSp_ok (h := h) (L := L) (H.ownSl (n := 2) rfl) (H.ownSl (n := 1) rfl) (by omega)) fun S5 H => ?_
  repeat (first | refine wp_gop_t ?_ | refine wp_gop_f rfl ?_ | refine wp_gop_u ?_ | refine wp_gcall_t ?_ | refine wp_gcall_f rfl ?_ | refine wp_gcall_u ?_ | refine wp_ite_t ?_ | refine wp_ite_f ?_ | refine wp_faddr ?_ | refine wp_nilchk ?_ | refine wp_op (o := .mv _) rfl ?_ | refine wp_op (o := .pick _ _ _) rfl ?_ | refine wp_op (o := .extract _ _) rfl ?_)
  refine wp_eql_t rfl ?_
  repeat (first | refine wp_gop_t ?_ | refine wp_gop_f rfl ?_ | refine wp_gop_u ?_ | refine wp_gcall_t ?_ | refine wp_gcall_f rfl ?_ | refine wp_gcall_u ?_ | refine wp_ite_t ?_ | refine wp_ite_f ?_ | refine wp_faddr ?_ | refine wp_nilchk ?_ | refine wp_op (o := .mv _) rfl ?_ | refine wp_op (o := .pick _ _ _) rfl ?_ | refine wp_op (o := .extract _ _) rfl ?_)
  refine wp_callV H (check_ok (H.ownSl (n := 3) (v := c) (es := 9) (L := evs h) rfl)) fun S6 H => ?_
  repeat (first | refine wp_gop_t ?_ | refine wp_gop_f rfl ?_ | refine wp_gop_u ?_ | refine wp_gcall_t ?_ | refine wp_gcall_f rfl ?_ | refine wp_gcall_u ?_ | refine wp_ite_t ?_ | refine wp_ite_f ?_ | refine wp_faddr ?_ | refine wp_nilchk ?_ | refine wp_op (o := .mv _) rfl ?_ | refine wp_op (o := .pick _ _ _) rfl ?_ | refine wp_op (o := .extract _ _) rfl ?_)
  refine wp_callV H (refCheck_ok (H.roSl (by repeat (first | exact List.Mem.head _ | apply List.Mem.tail)))) fun S7 H => ?_
  repeat (first | refine wp_gop_t ?_ | refine wp_gop_f rfl ?_ | refine wp_gop_u ?_ | refine wp_gcall_t ?_ | refine wp_gcall_f rfl ?_ | refine wp_gcall_u ?_ | refine wp_ite_t ?_ | refine wp_ite_f ?_ | refine wp_faddr ?_ | refine wp_nilchk ?_ | refine wp_op (o := .mv _) rfl ?_ | refine wp_op (o := .pick _ _ _) rfl ?_ | refine wp_op (o := .extract _ _) rfl ?_)
  refine wp_eql_t rfl ?_
  repeat (first | refine wp_gop_t ?_ | refine wp_gop_f rfl ?_ | refine wp_gop_u ?_ | refine wp_gcall_t ?_ | refine wp_gcall_f rfl ?_ | refine wp_gcall_u ?_ | refine wp_ite_t ?_ | refine wp_ite_f ?_ | refine wp_faddr ?_ | refine wp_nilchk ?_ | refine wp_op (o := .mv _) rfl ?_ | refine wp_op (o := .pick _ _ _) rfl ?_ | refine wp_op (o := .extract _ _) rfl ?_)
  refine wp_callN H (refPending_ok (H.roSl (by repeat (first | exact List.Mem.head _ | apply List.Mem.tail)))) fun q S8 H => ?_
  repeat (first | refine wp_gop_t ?_ | refine wp_gop_f rfl ?_ | refine wp_gop_u ?_ | refine wp_gcall_t ?_ | refine wp_gcall_f rfl ?_ | refine wp_gcall_u ?_ | refine wp_ite_t ?_ | refine wp_ite_f ?_ | refine wp_faddr ?_ | refine wp_nilchk ?_ | refine wp_op (o := .mv _) rfl ?_ | refine wp_op (o := .pick _ _ _) rfl ?_ | refine wp_op (o := .extract _ _) rfl ?_)
  refine wp_callV H (sameN_ok (H.ownSl (n := 1) rfl) (H.ownSl (n := 0) rfl) (by omega)) fun S9 H => ?_
  repeat (first | refine wp_gop_t ?_ | refine wp_gop_f rfl ?_ | refine wp_gop_u ?_ | refine wp_gcall_t ?_ | refine wp_gcall_f rfl ?_ | refine wp_gcall_u ?_ | refine wp_ite_t ?_ | refine wp_ite_f ?_ | refine wp_faddr ?_ | refine wp_nilchk ?_ | refine wp_op (o := .mv _) rfl ?_ | refine wp_op (o := .pick _ _ _) rfl ?_ | refine wp_op (o := .extract _ _) rfl ?_)
  refine wp_callV H (most_ok (H.ownSl (n := 4) (v := c) (es := 9) (L := evs h) rfl)) fun S10 H => ?_
  repeat (first | refine wp_gop_t ?_ | refine wp_gop_f rfl ?_ | refine wp_gop_u ?_ | refine wp_gcall_t ?_ | refine wp_gcall_f rfl ?_ | refine wp_gcall_u ?_ | refine wp_ite_t ?_ | refine wp_ite_f ?_ | refine wp_faddr ?_ | refine wp_nilchk ?_ | refine wp_op (o := .mv _) rfl ?_ | refine wp_op (o := .pick _ _ _) rfl ?_ | refine wp_op (o := .extract _ _) rfl ?_)
  refine wp_callV H (refMost_ok (H.roSl (by repeat (first | exact List.Mem.head _ | apply List.Mem.tail)))) fun S11 H => ?_
  repeat (first | refine wp_gop_t ?_ | refine wp_gop_f rfl ?_ | refine wp_gop_u ?_ | refine wp_gcall_t ?_ | refine wp_gcall_f rfl ?_ | refine wp_gcall_u ?_ | refine wp_ite_t ?_ | refine wp_ite_f ?_ | refine wp_faddr ?_ | refine wp_nilchk ?_ | refine wp_op (o := .mv _) rfl ?_ | refine wp_op (o := .pick _ _ _) rfl ?_ | refine wp_op (o := .extract _ _) rfl ?_)
  refine wp_eql_t rfl ?_
  repeat (first | refine wp_gop_t ?_ | refine wp_gop_f rfl ?_ | refine wp_gop_u ?_ | refine wp_gcall_t ?_ | refine wp_gcall_f rfl ?_ | refine wp_gcall_u ?_ | refine wp_ite_t ?_ | refine wp_ite_f ?_ | refine wp_faddr ?_ | refine wp_nilchk ?_ | refine wp_op (o := .mv _) rfl ?_ | refine wp_op (o := .pick _ _ _) rfl ?_ | refine wp_op (o := .extract _ _) rfl ?_)
  refine wp_callT H 3 rfl (overSp_ok (L := L.map (spc h)) (H.oh (.sl a 10 (L.map (spc h))) (by simp)) (H.ownSl (n := 3) rfl).2 (by rw [List.length_map]; omega)) fun _ S12 L1 H => ?_
  refine wp_callT H 1 rfl (overI_ok (L := ints (pend h)) (H.oh (.sl p 1 (ints (pend h))) (by simp)) (H.ownSl (n := 1) rfl).2 (by rw [ints_len]; omega)) fun _ S13 L2 H => ?_
  repeat (first | refine wp_gop_t ?_ | refine wp_gop_f rfl ?_ | refine wp_gop_u ?_ | refine wp_gcall_t ?_ | refine wp_gcall_f rfl ?_ | refine wp_gcall_u ?_ | refine wp_ite_t ?_ | refine wp_ite_f ?_ | refine wp_faddr ?_ | refine wp_nilchk ?_ | refine wp_op (o := .mv _) rfl ?_ | refine wp_op (o := .pick _ _ _) rfl ?_ | refine wp_op (o := .extract _ _) rfl ?_)
  refine wp_callV H (sameE_ok (H.ownSl (n := 4) (v := c) (es := 9) (L := evs h) rfl) (H.roSl (by repeat (first | exact List.Mem.head _ | apply List.Mem.tail))) (by omega)) fun S14 H => ?_
  repeat (first | refine wp_gop_t ?_ | refine wp_gop_f rfl ?_ | refine wp_gop_u ?_ | refine wp_gcall_t ?_ | refine wp_gcall_f rfl ?_ | refine wp_gcall_u ?_ | refine wp_ite_t ?_ | refine wp_ite_f ?_ | refine wp_faddr ?_ | refine wp_nilchk ?_ | refine wp_op (o := .mv _) rfl ?_ | refine wp_op (o := .pick _ _ _) rfl ?_ | refine wp_op (o := .extract _ _) rfl ?_)
  refine awake_ok ?_
  repeat (first | refine wp_gop_t ?_ | refine wp_gop_f rfl ?_ | refine wp_gop_u ?_ | refine wp_gcall_t ?_ | refine wp_gcall_f rfl ?_ | refine wp_gcall_u ?_ | refine wp_ite_t ?_ | refine wp_ite_f ?_ | refine wp_faddr ?_ | refine wp_nilchk ?_ | refine wp_op (o := .mv _) rfl ?_ | refine wp_op (o := .pick _ _ _) rfl ?_ | refine wp_op (o := .extract _ _) rfl ?_)
  exact wp_ret ⟨rfl, rfl⟩
end Go.Abs
namespace Go.Abs
open Go.Proofs
set_option maxRecDepth 100000
theorem whole_len (h : List Evt) : (whole h).length ≤ h.length := List.length_filter_le _ _
theorem only_len (h : List Evt) (l : List Int) : (only h l).length ≤ h.length := List.length_filter_le _ _
theorem eventParts_ok {S : AH} {v v' : AV} {h : List Evt} {l : List Int} (hv : RoSl S v 9 (evs h)) (hv' : RoSl S v' 1 (ints l)) :
    wpC EM (.fn (.func 5) [] []) [v, v'] S fun r _ => r = B true := by
  refine wpC_fn (b := Try.a5) rfl rfl ?_
  have H := Cx.ro2 hv hv'
  unfold Try.a5
  refine wp_len H (es := 9) (L := evs h) (by repeat (first | exact List.Mem.head _ | apply List.Mem.tail)) ?_
  rw [evs_len]
  have out : wp EM (.call (.fn (.func 14) [] []) [] fun v7 => .ret .ret [v7]) S fun t vs _ => t = .ret ∧ oneOf vs = B true := awake_ok (wp_ret ⟨rfl, rfl⟩)
  refine wp_gtr (fun hlt => ?_) (fun hge => ?_)
  · repeat (first | refine wp_gop_t ?_ | refine wp_gop_f rfl ?_ | refine wp_gop_u ?_ | refine wp_gcall_t ?_ | refine wp_gcall_f rfl ?_ | refine wp_gcall_u ?_ | refine wp_ite_t ?_ | refine wp_ite_f ?_ | refine wp_faddr ?_ | refine wp_nilchk ?_ | refine wp_op (o := .mv _) rfl ?_ | refine wp_op (o := .pick _ _ _) rfl ?_ | refine wp_op (o := .extract _ _) rfl ?_)
    exact awake_ok (wp_ret ⟨rfl, rfl⟩)
  repeat (first | refine wp_gop_t ?_ | refine wp_gop_f rfl ?_ | refine wp_gop_u ?_ | refine wp_gcall_t ?_ | refine wp_gcall_f rfl ?_ | refine wp_gcall_u ?_ | refine wp_ite_t ?_ | refine wp_ite_f ?_ | refine wp_faddr ?_ | refine wp_nilchk ?_ | refine wp_op (o := .mv _) rfl ?_ | refine wp_op (o := .pick _ _ _) rfl ?_ | refine wp_op (o := .extract _ _) rfl ?_)
  refine wp_len H (es := 1) (L := ints l) (by repeat (first | exact List.Mem.head _ | apply List.Mem.tail)) ?_
  rw [ints_len]
  repeat (first | refine wp_gop_t ?_ | refine wp_gop_f rfl ?_ | refine wp_gop_u ?_ | refine wp_gcall_t ?_ | refine wp_gcall_f rfl ?_ | refine wp_gcall_u ?_ | refine wp_ite_t ?_ | refine wp_ite_f ?_ | refine wp_faddr ?_ | refine wp_nilchk ?_ | refine wp_op (o := .mv _) rfl ?_ | refine wp_op (o := .pick _ _ _) rfl ?_ | refine wp_op (o := .extract _ _) rfl ?_)
  refine wp_gtr (fun hlt => ?_) (fun hge2 => ?_)
  · repeat (first | refine wp_gop_t ?_ | refine wp_gop_f rfl ?_ | refine wp_gop_u ?_ | refine wp_gcall_t ?_ | refine wp_gcall_f rfl ?_ | refine wp_gcall_u ?_ | refine wp_ite_t ?_ | refine wp_ite_f ?_ | refine wp_faddr ?_ | refine wp_nilchk ?_ | refine wp_op (o := .mv _) rfl ?_ | refine wp_op (o := .pick _ _ _) rfl ?_ | refine wp_op (o := .extract _ _) rfl ?_)
    exact awake_ok (wp_ret ⟨rfl, rfl⟩)
  repeat (first | refine wp_gop_t ?_ | refine wp_gop_f rfl ?_ | refine wp_gop_u ?_ | refine wp_gcall_t ?_ | refine wp_gcall_f rfl ?_ | refine wp_gcall_u ?_ | refine wp_ite_t ?_ | refine wp_ite_f ?_ | refine wp_faddr ?_ | refine wp_nilchk ?_ | refine wp_op (o := .mv _) rfl ?_ | refine wp_op (o := .pick _ _ _) rfl ?_ | refine wp_op (o := .extract _ _) rfl ?_)
  have hl : h.length ≤ 200 := by omega
  have hl2 : l.length ≤ 50 := by omega
  have hw := whole_len h
  have ho := only_len h l
  refine wp_callN H (copyE_ok (H.roSl (by repeat (first | exact List.Mem.head _ | apply List.Mem.tail))) (by omega)) fun c S1 H => ?_
  refine wp_callN H (copyI_ok (H.roSl (es := 1) (by repeat (first | exact List.Mem.head _ | apply List.Mem.tail))) (by omega)) fun d S2 H => ?_
  refine wp_callTup H (whole_ok (h := h) (H.ownSl (n := 1) (v := c) (es := 9) rfl)) fun a S3 H => ?_
  repeat (first | refine wp_gop_t ?_ | refine wp_gop_f rfl ?_ | refine wp_gop_u ?_ | refine wp_gcall_t ?_ | refine wp_gcall_f rfl ?_ | refine wp_gcall_u ?_ | refine wp_ite_t ?_ | refine wp_ite_f ?_ | refine wp_faddr ?_ | refine wp_nilchk ?_ | refine wp_op (o := .mv _) rfl ?_ | refine wp_op (o := .pick _ _ _) rfl ?_ | refine wp_op (o := .extract _ _) rfl ?_)
  refine wp_callTup H (refWhole_ok (H.roSl (es := 9) (by repeat (first | exact List.Mem.head _ | apply List.Mem.tail)))) fun b S4 H => ?_
  repeat (first | refine wp_gop_t ?_ | refine wp_gop_f rfl ?_ | refine wp_gop_u ?_ | refine wp_gcall_t ?_ | refine wp_gcall_f rfl ?_ | refine wp_gcall_u ?_ | refine wp_ite_t ?_ | refine wp_ite_f ?_ | refine wp_faddr ?_ | refine wp_nilchk ?_ | refine wp_op (o := .mv _) rfl ?_ | refine wp_op (o := .pick _ _ _) rfl ?_ | refine wp_op (o := .extract _ _) rfl ?_)
  have e1 : (if chk h = 0 then evs (whole h) else []) = evs (if chk h = 0 then whole h else []) := by split <;> rfl
  rw [e1] at H
  have hL : (if chk h = 0 then whole h else []).length ≤ 200 := by
    split
    · omega
    · simp
  generalize (if chk h = 0 then whole h else []) = L at H hL
  refine wp_callN H (only_ok (h := h) (l := l) (H.ownSl (n := 3) (v := c) (es := 9) rfl) (H.ownSl (n := 2) (v := d) (es := 1) rfl) (by omega) (by omega)) fun o S5 H => ?_
  refine wp_callV H (sameE_ok (h := L) (H.ownSl (n := 2) rfl) (H.ownSl (n := 1) rfl) (by omega)) fun S6 H => ?_
  repeat (first | refine wp_gop_t ?_ | refine wp_gop_f rfl ?_ | refine wp_gop_u ?_ | refine wp_gcall_t ?_ | refine wp_gcall_f rfl ?_ | refine wp_gcall_u ?_ | refine wp_ite_t ?_ | refine wp_ite_f ?_ | refine wp_faddr ?_ | refine wp_nilchk ?_ | refine wp_op (o := .mv _) rfl ?_ | refine wp_op (o := .pick _ _ _) rfl ?_ | refine wp_op (o := .extract _ _) rfl ?_)
  refine wp_eql_t rfl ?_
  repeat (first | refine wp_gop_t ?_ | refine wp_gop_f rfl ?_ | refine wp_gop_u ?_ | refine wp_gcall_t ?_ | refine wp_gcall_f rfl ?_ | refine wp_gcall_u ?_ | refine wp_ite_t ?_ | refine wp_ite_f ?_ | refine wp_faddr ?_ | refine wp_nilchk ?_ | refine wp_op (o := .mv _) rfl ?_ | refine wp_op (o := .pick _ _ _) rfl ?_ | refine wp_op (o := .extract _ _) rfl ?_)
  refine wp_callN H (refOnly_ok (h := h) (l := l) (H.roSl (es := 9) (by repeat (first | exact List.Mem.head _ | apply List.Mem.tail))) (H.roSl (es := 1) (by repeat (first | exact List.Mem.head _ | apply List.Mem.tail))) (by omega) (by omega)) fun q S7 H => ?_
  repeat (first | refine wp_gop_t ?_ | refine wp_gop_f rfl ?_ | refine wp_gop_u ?_ | refine wp_gcall_t ?_ | refine wp_gcall_f rfl ?_ | refine wp_gcall_u ?_ | refine wp_ite_t ?_ | refine wp_ite_f ?_ | refine wp_faddr ?_ | refine wp_nilchk ?_ | refine wp_op (o := .mv _) rfl ?_ | refine wp_op (o := .pick _ _ _) rfl ?_ | refine wp_op (o := .extract _ _) rfl ?_)
  refine wp_callV H (sameE_ok (h := only h l) (H.ownSl (n := 1) rfl) (H.ownSl (n := 0) rfl) (by omega)) fun S8 H => ?_
  repeat (first | refine wp_gop_t ?_ | refine wp_gop_f rfl ?_ | refine wp_gop_u ?_ | refine wp_gcall_t ?_ | refine wp_gcall_f rfl ?_ | refine wp_gcall_u ?_ | refine wp_ite_t ?_ | refine wp_ite_f ?_ | refine wp_faddr ?_ | refine wp_nilchk ?_ | refine wp_op (o := .mv _) rfl ?_ | refine wp_op (o := .pick _ _ _) rfl ?_ | refine wp_op (o := .extract _ _) rfl ?_)
  refine wp_callT H 3 rfl (overE_ok (L := evs L) (H.oh (.sl a 9 (evs L)) (by simp)) (H.ownSl (n := 3) rfl).2 (by rw [evs_len]; omega)) fun _ S9 L1 H => ?_
  refine wp_callT H 1 rfl (overE_ok (L := evs (only h l)) (H.oh (.sl o 9 (evs (only h l))) (by simp)) (H.ownSl (n := 1) rfl).2 (by rw [evs_len]; omega)) fun _ S10 L2 H => ?_
  repeat (first | refine wp_gop_t ?_ | refine wp_gop_f rfl ?_ | refine wp_gop_u ?_ | refine wp_gcall_t ?_ | refine wp_gcall_f rfl ?_ | refine wp_gcall_u ?_ | refine wp_ite_t ?_ | refine wp_ite_f ?_ | refine wp_faddr ?_ | refine wp_nilchk ?_ | refine wp_op (o := .mv _) rfl ?_ | refine wp_op (o := .pick _ _ _) rfl ?_ | refine wp_op (o := .extract _ _) rfl ?_)
  refine wp_callV H (sameE_ok (h := h) (H.ownSl (n := 5) (v := c) (es := 9) rfl) (H.roSl (es := 9) (by repeat (first | exact List.Mem.head _ | apply List.Mem.tail))) (by omega)) fun S11 H => ?_
  repeat (first | refine wp_gop_t ?_ | refine wp_gop_f rfl ?_ | refine wp_gop_u ?_ | refine wp_gcall_t ?_ | refine wp_gcall_f rfl ?_ | refine wp_gcall_u ?_ | refine wp_ite_t ?_ | refine wp_ite_f ?_ | refine wp_faddr ?_ | refine wp_nilchk ?_ | refine wp_op (o := .mv _) rfl ?_ | refine wp_op (o := .pick _ _ _) rfl ?_ | refine wp_op (o := .extract _ _) rfl ?_)
  refine wp_callV H (sameN_ok (l := l) (H.ownSl (n := 4) (v := d) (es := 1) rfl) (H.roSl (es := 1) (by repeat (first | exact List.Mem.head _ | apply List.Mem.tail))) (by omega)) fun S12 H => ?_
  repeat (first | refine wp_gop_t ?_ | refine wp_gop_f rfl ?_ | refine wp_gop_u ?_ | refine wp_gcall_t ?_ | refine wp_gcall_f rfl ?_ | refine wp_gcall_u ?_ | refine wp_ite_t ?_ | refine wp_ite_f ?_ | refine wp_faddr ?_ | refine wp_nilchk ?_ | refine wp_op (o := .mv _) rfl ?_ | refine wp_op (o := .pick _ _ _) rfl ?_ | refine wp_op (o := .extract _ _) rfl ?_)
  refine awake_ok ?_
  repeat (first | refine wp_gop_t ?_ | refine wp_gop_f rfl ?_ | refine wp_gop_u ?_ | refine wp_gcall_t ?_ | refine wp_gcall_f rfl ?_ | refine wp_gcall_u ?_ | refine wp_ite_t ?_ | refine wp_ite_f ?_ | refine wp_faddr ?_ | refine wp_nilchk ?_ | refine wp_op (o := .mv _) rfl ?_ | refine wp_op (o := .pick _ _ _) rfl ?_ | refine wp_op (o := .extract _ _) rfl ?_)
  exact wp_ret ⟨rfl, rfl⟩
end Go.Abs
