/- functions of this cut: what they compute, in the abstract machine. Conditions: stated in each theorem -/
import Derived.Test.YtpmhpfmigkoggaaGreatE0
set_option linter.unusedVariables false
set_option linter.unusedSimpArgs false
namespace Go.Abs
open Go.Proofs
set_option maxRecDepth 100000
set_option linter.unusedVariables false
def Fv (v : AV) : Prop := odd v = false ∧ v.cells = [v]
theorem fvFn {f : Fn} {a b : List AV} : Fv (.fn f a b) := ⟨rfl, rfl⟩
theorem fvNf : Fv Nf := ⟨rfl, rfl⟩
theorem setRange_one {x : List AV} {c : AV} {j : Nat} (hj : j < x.length) : setRange x j [c] = x.set j c := by
  apply List.ext_getElem?
  intro i
  rw [setRange_get (by simp; omega), List.getElem?_set]
  by_cases h : j = i
  · subst h; simp [hj]
  · rw [if_neg (by simp; omega), if_neg h]
section
variable {B0 S : AH} {W : List Nat} {own : List Own} {ro : List Fct} {Q : Post} {k : AV → AC} {v : AV}
theorem Cx.permS (H : Cx B0 W S own ro) {own' : List Own} (h : own.Perm own') : Cx B0 W S own' ro where
  next := H.next
  old := H.old
  oh := fun x hx => H.oh x (h.mem_iff.2 hx)
  oi := fun x hx => H.oi x (h.mem_iff.2 hx)
  od := (h.pairwise_iff (fun {x y} hxy id hy hx => hxy id hx hy)).1 H.od
  rh := H.rh
  ri := fun φ hφ id hid => ⟨(H.ri φ hφ id hid).1, fun x hx => (H.ri φ hφ id hid).2 x (h.mem_iff.2 hx)⟩

/-! ### functions that are known without a body -/
theorem wp_row {M : Mach} (H : Cx B0 W S own ro) (n : Nat) {id j : Nat} {c : List AV} {v : AV} (hm : own[n]? = some (.obj id (.row c))) (hj : c[j]? = some v) (h : wp M (k v) S Q) : wp M (.op (.load 1 false (.ptr id j)) k) S Q := wp_loado H n hm hj h
theorem wp_set1 {M : Mach} (H : Cx B0 W S own ro) (n : Nat) {id j : Nat} {c : List AV} {v : AV} (hm : own[n]? = some (.obj id (.row c))) (hj : j < c.length) (hv : Fv v) (h : ∀ S1, Cx B0 W S1 (own.set n (.obj id (.row (c.set j v)))) ro → wp M (k uv) S1 Q) :
    wp M (.op (.store 1 (.ptr id j) v) k) S Q :=
  wp_store H n hm hv.1 (by rw [hv.2]; rfl) (by omega) fun S1 H1 => h S1 (by rw [hv.2, setRange_one hj] at H1; exact H1)
theorem slW_len {M : Mach} {S : AH} {v : AV} {es : Nat} {L : List (List AV)} (h : slW S v es L) (S1 : AH) : evalOp M.P (.len false v) S1 = some (I (L.length : Nat), S1) := by
  rcases h with ⟨rfl, rfl⟩ | ⟨id, off, c, h1, h2, h3, h4⟩
  · rfl
  · rcases h1 with ⟨cap, _, _, rfl⟩ | ⟨cmin, _, _, rfl⟩ <;> rfl
theorem wp_loadF0 {M : Mach} {id off : Nat} {e : AV} (hp : (Fct.pt id off [e]).holds S) (h : wp M (k e) S Q) : wp M (.op (.load 1 false (.ptr id off)) k) S Q := by
  obtain ⟨c, h1, h2⟩ := pt_get (j := 0) hp rfl
  exact wp_op (e_load1 h1 h2) h
def vals (L : List AV) : List (List AV) := L.map fun e => [e]
end
theorem e_ptrNil {M : Mach} {S : AH} {t id off : Nat} {n : Bool} (ht : typc M.P t = 1) : evalOp M.P (.eq t n (.ptr id off) Np) S = some (B n, S) := by
  show pur (pEq M.P t n (.ptr id off) Np) S = _
  have : aeq M.P t (.ptr id off) Np = some false := by
    unfold aeq
    rw [ht]
    rfl
  unfold pEq
  rw [this]
  cases n <;> rfl
section
variable {M : Mach} {B0 S : AH} {W : List Nat} {own : List Own} {ro : List Fct} {Q : Post}
/-- a range over a function: Done says how it ended -/
theorem wp_rngX (H : Cx B0 W S own ro) {m : Nat} {f : AV} {body : List AV → AC} {kk : AC} {outs : List AV} (hf : ∀ i, f ≠ .yd i) (Done : Option Tag → AH → Prop)
    (hc : ∀ l S1, Cx B0 W S1 (.obj l (.loop .ready none m body) :: own) ro → wpC M f [.yd l] S1 fun _ S' => ∃ st p m' b', S'.get l = some (.loop st p m' b') ∧ st ≠ .busy ∧ ∀ S2, S2.next = S'.next → (∀ j, j ≠ l → S2.get j = S'.get j) → Done p S2)
    (h : ∀ S2, Done none S2 → wp M kk S2 Q) (h' : ∀ t S2, Done (some t) S2 → Q t outs S2) : wp M (.rng m f body kk outs) S Q := by
  refine wp_rng hf (wpC_mono (hc S.next _ (H.addOwn (Grows.new S _) (get_new_same _ _) ?_)) fun v S' ⟨st, p, m', b', h1, h2, h3⟩ => ⟨st, p, m', b', h1, h2, ?_⟩)
  · intro j hj
    simp only [Own.ids, List.mem_singleton] at hj
    subst hj
    exact ⟨Nat.le_refl _, by simp⟩
  · have key := h3 (S'.set S.next (.loop .exhausted p m' b')) rfl fun j hj => by rw [AH.get_set, if_neg hj]
    cases p with
    | none => exact h _ key
    | some t => exact h' t _ key
/-- a round, however it ends -/
theorem wpC_ydX (H : Cx B0 W S own ro) (n : Nat) {l m : Nat} {args : List AV} {body : List AV → AC} {R : AV → AH → Prop} (hm : own[n]? = some (.obj l (.loop .ready none m body))) (hl : args.length = m)
    (h : wp M (body (.yd l :: args)) S fun t _ S' => ∃ own' ro', Cx B0 W S' own' ro' ∧ own'[n]? = some (.obj l (.loop .busy none m body)) ∧
      ((t = .normal ∧ ∀ S2, Cx B0 W S2 (own'.set n (.obj l (.loop .ready none m body))) ro' → R (B true) S2) ∨ (t ≠ .normal ∧ ∀ S2, Cx B0 W S2 (own'.set n (.obj l (.loop .done (some t) m body))) ro' → R (B false) S2))) :
    wpC M (.yd l) args S R := by
  refine wpC_yd (H.oh _ (List.mem_of_getElem? hm)) hl (wp_mono h fun t vs S' q => ?_)
  obtain ⟨own', ro', H', hm', hR⟩ := q
  refine ⟨none, m, body, H'.oh _ (List.mem_of_getElem? hm'), ?_⟩
  rcases hR with ⟨rfl, hR⟩ | ⟨ht, hR⟩
  · exact hR _ (H'.setOb hm' _)
  · cases t with
    | normal => exact absurd rfl ht
    | _ => exact hR _ (H'.setOb hm' _)
end
/-! ### mailboxes -/
def mailP (a n r : Int) : Prop := 1 ≤ n ∧ n ≤ 64 ∧ 1 ≤ r ∧ r ≤ 16
instance (a n r : Int) : Decidable (mailP a n r) := inferInstanceAs (Decidable (_ ∧ _))
def mailQ (a n r : Int) : Prop := mailP a n r ∧ 0 ≤ a ∧ a < 4096
instance (a n r : Int) : Decidable (mailQ a n r) := inferInstanceAs (Decidable (_ ∧ _))
theorem sizedM_ok {S : AH} {a n r : Int} : wpC EM (.fn (.func 146) [] []) [.agg [I a, I n, I r]] S fun r' S' => r' = B (decide (mailP a n r)) ∧ Grows S S' := by
  refine wpC_fn (b := Tryz.a146) rfl rfl ?_
  have H : Cx S [] S [] [] := Cx.enter (by simp)
  unfold mailP Tryz.a146 Tryz.a146x1 Tryz.a146x0
  repeat' (first | (first|refine zA ?_|refine zB rfl ?_|refine zC ?_|refine zD ?_|refine zE rfl ?_|refine zF ?_|refine zG ?_|refine zH ?_|refine zI ?_|refine zJ ?_|refine zK ?_|refine zL rfl ?_|refine zN rfl ?_) | refine wp_bind ?_ | refine wp_box (by assumption) rfl fun _ _ _ => ?_ | refine wp_tmpN (by assumption) rfl rfl rfl fun _ _ _ => ?_ | refine wp_ld (by assumption) (by repeat (first | exact List.Mem.head _ | apply List.Mem.tail)) rfl ?_ | refine wp_ldn (by assumption) (by repeat (first | exact List.Mem.head _ | apply List.Mem.tail)) rfl ?_ | refine wp_notT ?_ | refine wp_notF ?_ | (refine wp_ret ?_; show wp EM _ _ _) | refine wp_lss (fun _ => ?_) (fun _ => ?_) | refine wp_gtr (fun _ => ?_) (fun _ => ?_) | refine wp_leq (fun _ => ?_) (fun _ => ?_) | refine wp_geq (fun _ => ?_) (fun _ => ?_) | refine wp_eql (fun _ => ?_) (fun _ => ?_) | refine wp_neq (fun _ => ?_) (fun _ => ?_) | refine wp_add64 (by omega) (by omega) ?_ | refine wp_sub64 (by omega) (by omega) ?_)
  all_goals (first | exact wp_ret ⟨rfl, (congrArg B (decide_eq_true (by omega))).symm, Cx.grows (by assumption)⟩ | exact wp_ret ⟨rfl, (congrArg B (decide_eq_false (by omega))).symm, Cx.grows (by assumption)⟩)
theorem placedM_ok {S : AH} {a n r : Int} : wpC EM (.fn (.func 91) [] []) [.agg [I a, I n, I r]] S fun r' S' => r' = B (decide (mailQ a n r)) ∧ Grows S S' := by
  refine wpC_fn (b := Tryz.a91) rfl rfl ?_
  have H : Cx S [] S [] [] := Cx.enter (by simp)
  unfold Tryz.a91 Tryz.a91x0
  refine wp_box H rfl fun p S1 H => ?_
  refine wp_ldn H (by repeat (first | exact List.Mem.head _ | apply List.Mem.tail)) rfl ?_
  refine wp_callV H (sizedM_ok (a := a) (n := n) (r := r)) fun S2 H => ?_
  by_cases h : mailP a n r
  · rw [decide_eq_true h]
    have h0 := h
    repeat' (first | (first|refine zA ?_|refine zB rfl ?_|refine zC ?_|refine zD ?_|refine zE rfl ?_|refine zF ?_|refine zG ?_|refine zH ?_|refine zI ?_|refine zJ ?_|refine zK ?_|refine zL rfl ?_|refine zN rfl ?_) | refine wp_bind ?_ | refine wp_box (by assumption) rfl fun _ _ _ => ?_ | refine wp_tmpN (by assumption) rfl rfl rfl fun _ _ _ => ?_ | refine wp_ld (by assumption) (by repeat (first | exact List.Mem.head _ | apply List.Mem.tail)) rfl ?_ | refine wp_ldn (by assumption) (by repeat (first | exact List.Mem.head _ | apply List.Mem.tail)) rfl ?_ | refine wp_notT ?_ | refine wp_notF ?_ | (refine wp_ret ?_; show wp EM _ _ _) | refine wp_lss (fun _ => ?_) (fun _ => ?_) | refine wp_gtr (fun _ => ?_) (fun _ => ?_) | refine wp_leq (fun _ => ?_) (fun _ => ?_) | refine wp_geq (fun _ => ?_) (fun _ => ?_) | refine wp_eql (fun _ => ?_) (fun _ => ?_) | refine wp_neq (fun _ => ?_) (fun _ => ?_) | refine wp_add64 (by omega) (by omega) ?_ | refine wp_sub64 (by omega) (by omega) ?_)
    all_goals first
      | exact wp_ret ⟨rfl, (congrArg B (decide_eq_true (p := mailQ a n r) ⟨h0, by omega, by omega⟩)).symm, Cx.grows (by assumption)⟩
      | exact wp_ret ⟨rfl, (congrArg B (decide_eq_false (p := mailQ a n r) (fun q => by have := q.2; omega))).symm, Cx.grows (by assumption)⟩
  · rw [decide_eq_false h, decide_eq_false (p := mailQ a n r) (fun q => h q.1)]
    repeat (first|refine zA ?_|refine zB rfl ?_|refine zC ?_|refine zD ?_|refine zE rfl ?_|refine zF ?_|refine zG ?_|refine zH ?_|refine zI ?_|refine zJ ?_|refine zK ?_|refine zL rfl ?_|refine zN rfl ?_)
    exact wp_ret ⟨rfl, rfl, H.grows⟩
theorem rightM_ok {S : AH} {a n r : Int} : wpC EM (.fn (.func 94) [] []) [.agg [I a, I n, I r]] S fun r' S' => r' = B (decide (mailP a n r)) ∧ Grows S S' := by
  refine wpC_fn (b := Tryz.a94) rfl rfl ?_
  have H : Cx S [] S [] [] := Cx.enter (by simp)
  unfold mailP Tryz.a94 Tryz.a94x1 Tryz.a94x0
  repeat' (first | (first|refine zA ?_|refine zB rfl ?_|refine zC ?_|refine zD ?_|refine zE rfl ?_|refine zF ?_|refine zG ?_|refine zH ?_|refine zI ?_|refine zJ ?_|refine zK ?_|refine zL rfl ?_|refine zN rfl ?_) | refine wp_bind ?_ | refine wp_box (by assumption) rfl fun _ _ _ => ?_ | refine wp_tmpN (by assumption) rfl rfl rfl fun _ _ _ => ?_ | refine wp_ld (by assumption) (by repeat (first | exact List.Mem.head _ | apply List.Mem.tail)) rfl ?_ | refine wp_ldn (by assumption) (by repeat (first | exact List.Mem.head _ | apply List.Mem.tail)) rfl ?_ | refine wp_notT ?_ | refine wp_notF ?_ | (refine wp_ret ?_; show wp EM _ _ _) | refine wp_lss (fun _ => ?_) (fun _ => ?_) | refine wp_gtr (fun _ => ?_) (fun _ => ?_) | refine wp_leq (fun _ => ?_) (fun _ => ?_) | refine wp_geq (fun _ => ?_) (fun _ => ?_) | refine wp_eql (fun _ => ?_) (fun _ => ?_) | refine wp_neq (fun _ => ?_) (fun _ => ?_) | refine wp_add64 (by omega) (by omega) ?_ | refine wp_sub64 (by omega) (by omega) ?_)
  all_goals (first | exact wp_ret ⟨rfl, (congrArg B (decide_eq_true (by omega))).symm, Cx.grows (by assumption)⟩ | exact wp_ret ⟨rfl, (congrArg B (decide_eq_false (by omega))).symm, Cx.grows (by assumption)⟩)
theorem soundM_ok {S : AH} {a n r : Int} : wpC EM (.fn (.func 194) [] []) [.agg [I a, I n, I r]] S fun r' S' => r' = B (decide (mailQ a n r)) ∧ Grows S S' := by
  refine wpC_fn (b := Tryz.a194) rfl rfl ?_
  have H : Cx S [] S [] [] := Cx.enter (by simp)
  unfold Tryz.a194 Tryz.a194x0
  refine wp_box H rfl fun p S1 H => ?_
  refine wp_ldn H (by repeat (first | exact List.Mem.head _ | apply List.Mem.tail)) rfl ?_
  refine wp_callV H (rightM_ok (a := a) (n := n) (r := r)) fun S2 H => ?_
  by_cases h : mailP a n r
  · rw [decide_eq_true h]
    have h0 := h
    repeat' (first | (first|refine zA ?_|refine zB rfl ?_|refine zC ?_|refine zD ?_|refine zE rfl ?_|refine zF ?_|refine zG ?_|refine zH ?_|refine zI ?_|refine zJ ?_|refine zK ?_|refine zL rfl ?_|refine zN rfl ?_) | refine wp_bind ?_ | refine wp_box (by assumption) rfl fun _ _ _ => ?_ | refine wp_tmpN (by assumption) rfl rfl rfl fun _ _ _ => ?_ | refine wp_ld (by assumption) (by repeat (first | exact List.Mem.head _ | apply List.Mem.tail)) rfl ?_ | refine wp_ldn (by assumption) (by repeat (first | exact List.Mem.head _ | apply List.Mem.tail)) rfl ?_ | refine wp_notT ?_ | refine wp_notF ?_ | (refine wp_ret ?_; show wp EM _ _ _) | refine wp_lss (fun _ => ?_) (fun _ => ?_) | refine wp_gtr (fun _ => ?_) (fun _ => ?_) | refine wp_leq (fun _ => ?_) (fun _ => ?_) | refine wp_geq (fun _ => ?_) (fun _ => ?_) | refine wp_eql (fun _ => ?_) (fun _ => ?_) | refine wp_neq (fun _ => ?_) (fun _ => ?_) | refine wp_add64 (by omega) (by omega) ?_ | refine wp_sub64 (by omega) (by omega) ?_)
    all_goals first
      | exact wp_ret ⟨rfl, (congrArg B (decide_eq_true (p := mailQ a n r) ⟨h0, by omega, by omega⟩)).symm, Cx.grows (by assumption)⟩
      | exact wp_ret ⟨rfl, (congrArg B (decide_eq_false (p := mailQ a n r) (fun q => by have := q.2; omega))).symm, Cx.grows (by assumption)⟩
  · rw [decide_eq_false h, decide_eq_false (p := mailQ a n r) (fun q => h q.1)]
    repeat (first|refine zA ?_|refine zB rfl ?_|refine zC ?_|refine zD ?_|refine zE rfl ?_|refine zF ?_|refine zG ?_|refine zH ?_|refine zI ?_|refine zJ ?_|refine zK ?_|refine zL rfl ?_|refine zN rfl ?_)
    exact wp_ret ⟨rfl, rfl, H.grows⟩
/-- where the ring of a mailbox lies -/
def ringAt (a r c : Int) : Int := a + c * (r + 2)
def ringCs (a r c : Int) : List AV := [I (ringAt a r c), I (ringAt a r c + 1), I (ringAt a r c + 2), I r]
theorem ringAt_bd {a n r c : Int} (h : mailQ a n r) (h0 : 0 ≤ c) (h1 : c < n) : 0 ≤ c * (r + 2) ∧ c * (r + 2) ≤ 1152 ∧ 0 ≤ ringAt a r c ∧ ringAt a r c ≤ 5247 := by
  unfold mailQ mailP at h
  have := mul_bd (a := c) (b := r + 2) (A := 64) (C := 18) (by omega) (by omega) (by omega) (by omega)
  unfold ringAt; omega
theorem rbox_ok {S : AH} {a n r c : Int} (h : mailQ a n r) (h0 : 0 ≤ c) (h1 : c < n) : wpC EM (.fn (.func 115) [] []) [.agg [I a, I n, I r], I c] S fun r' S' => r' = .tup [.agg (ringCs a r c), B true] ∧ Grows S S' := by
  refine wpC_fn (b := Tryz.a115) rfl rfl ?_
  have H : Cx S [] S [] [] := Cx.enter (by simp)
  obtain ⟨m1, m2, m3, m4⟩ := ringAt_bd h h0 h1
  have hq := h
  unfold mailQ mailP at h
  unfold Tryz.a115 Tryz.a115x3 Tryz.a115x2 Tryz.a115x1 Tryz.a115x0
  refine wp_fin ?_
  refine wp_box H rfl fun p S1 H => ?_
  refine wp_alloc H fun q S2 H => ?_
  refine wp_ldn H (by repeat (first | exact List.Mem.head _ | apply List.Mem.tail)) rfl ?_
  refine wp_callV H (soundM_ok (a := a) (n := n) (r := r)) fun S3 H => ?_
  rw [decide_eq_true hq]
  refine wp_notT ?_
  repeat (first|refine zA ?_|refine zB rfl ?_|refine zC ?_|refine zD ?_|refine zE rfl ?_|refine zF ?_|refine zG ?_|refine zH ?_|refine zI ?_|refine zJ ?_|refine zK ?_|refine zL rfl ?_|refine zN rfl ?_)
  refine wp_lss_f h0 ?_
  repeat (first|refine zA ?_|refine zB rfl ?_|refine zC ?_|refine zD ?_|refine zE rfl ?_|refine zF ?_|refine zG ?_|refine zH ?_|refine zI ?_|refine zJ ?_|refine zK ?_|refine zL rfl ?_|refine zN rfl ?_)
  refine wp_ld H (by repeat (first | exact List.Mem.head _ | apply List.Mem.tail)) rfl ?_
  repeat (first|refine zA ?_|refine zB rfl ?_|refine zC ?_|refine zD ?_|refine zE rfl ?_|refine zF ?_|refine zG ?_|refine zH ?_|refine zI ?_|refine zJ ?_|refine zK ?_|refine zL rfl ?_|refine zN rfl ?_)
  refine wp_geq_f h1 ?_
  repeat (first|refine zA ?_|refine zB rfl ?_|refine zC ?_|refine zD ?_|refine zE rfl ?_|refine zF ?_|refine zG ?_|refine zH ?_|refine zI ?_|refine zJ ?_|refine zK ?_|refine zL rfl ?_|refine zN rfl ?_)
  refine wp_ldn H (by repeat (first | exact List.Mem.head _ | apply List.Mem.tail)) rfl ?_
  have hr : wpC EM (.fn (.func 195) [] []) [.agg [I a, I n, I r], I c] S3 fun r' S' => r' = .agg (ringCs a r c) ∧ Grows S3 S' := by
    refine wpC_fn (b := Tryz.a195) rfl rfl ?_
    clear H
    have H : Cx S3 [] S3 [] [] := Cx.enter (by simp)
    unfold Tryz.a195 Tryz.a195x1 Tryz.a195x0
    refine wp_fin ?_
    refine wp_box H rfl fun p S1 H => ?_
    refine wp_alloc H fun q S2 H => ?_
    repeat (first|refine zA ?_|refine zB rfl ?_|refine zC ?_|refine zD ?_|refine zE rfl ?_|refine zF ?_|refine zG ?_|refine zH ?_|refine zI ?_|refine zJ ?_|refine zK ?_|refine zL rfl ?_|refine zN rfl ?_)
    refine wp_ld H (by repeat (first | exact List.Mem.head _ | apply List.Mem.tail)) rfl ?_
    repeat (first|refine zA ?_|refine zB rfl ?_|refine zC ?_|refine zD ?_|refine zE rfl ?_|refine zF ?_|refine zG ?_|refine zH ?_|refine zI ?_|refine zJ ?_|refine zK ?_|refine zL rfl ?_|refine zN rfl ?_)
    refine wp_ld H (by repeat (first | exact List.Mem.head _ | apply List.Mem.tail)) rfl ?_
    refine wp_add64 (by omega) (by omega) ?_
    refine wp_mul64 (by omega) (by omega) ?_
    refine wp_add64 (by omega) (by omega) ?_
    have e : a + c * (r + 2) = ringAt a r c := rfl
    rw [e]
    refine wp_add64 (by omega) (by omega) ?_
    refine wp_add64 (by omega) (by omega) ?_
    repeat (first|refine zA ?_|refine zB rfl ?_|refine zC ?_|refine zD ?_|refine zE rfl ?_|refine zF ?_|refine zG ?_|refine zH ?_|refine zI ?_|refine zJ ?_|refine zK ?_|refine zL rfl ?_|refine zN rfl ?_)
    refine wp_ld H (by repeat (first | exact List.Mem.head _ | apply List.Mem.tail)) rfl ?_
    refine wp_op (v := .agg (ringCs a r c)) rfl ?_
    refine wp_store (n := 4) H 0 (c := [I 0, I 0, I 0, I 0]) rfl rfl rfl (by simp) fun S4 H => ?_
    have H : Cx S3 [] S4 [.obj q (.row (ringCs a r c))] [.pt p 0 [I a, I n, I r]] := H
    refine wp_ret ⟨.inr rfl, ?_⟩
    refine wp_loadoa (n := 4) H 0 rfl (by simp [ringCs]) ?_
    exact wp_ret ⟨rfl, rfl, H.grows⟩
  refine wp_callV H hr fun S4 H => ?_
  refine wp_store (n := 4) H 0 (c := [I 0, I 0, I 0, I 0]) rfl rfl rfl (by simp) fun S5 H => ?_
  have H : Cx S [] S5 [.obj q (.row (ringCs a r c))] [.pt p 0 [I a, I n, I r]] := H
  refine wp_ret ⟨.inr rfl, ?_⟩
  refine wp_loadoa (n := 4) H 0 rfl (by simp [ringCs]) ?_
  exact wp_ret ⟨rfl, rfl, H.grows⟩
theorem boxM_ok {S : AH} {a n r c : Int} (h : mailQ a n r) (h0 : 0 ≤ c) (h1 : c < n) : wpC EM (.fn (.func 140) [] []) [.agg [I a, I n, I r], I c] S fun r' S' => r' = .tup [.agg (ringCs a r c), B true] ∧ Grows S S' := by
  refine wpC_fn (b := Tryz.a140) rfl rfl ?_
  have H : Cx S [] S [] [] := Cx.enter (by simp)
  have hq := h
  obtain ⟨cn, rfl⟩ : ∃ k : Nat, c = (k : Int) := ⟨c.toNat, by omega⟩
  unfold mailQ mailP at h
  unfold Tryz.a140 Tryz.a140x6 Tryz.a140x5 Tryz.a140x4 Tryz.a140x3 Tryz.a140x2 Tryz.a140x1 Tryz.a140x0
  refine wp_fin ?_
  refine wp_box H rfl fun p S1 H => ?_
  refine wp_box H rfl fun pc S1 H => ?_
  refine wp_alloc H fun q S2 H => ?_
  refine wp_alloc H fun t S2 H => ?_
  refine wp_ldn H (by repeat (first | exact List.Mem.head _ | apply List.Mem.tail)) rfl ?_
  refine wp_callV H (placedM_ok (a := a) (n := n) (r := r)) fun S3 H => ?_
  rw [decide_eq_true hq]
  refine wp_notT ?_
  repeat (first|refine zA ?_|refine zB rfl ?_|refine zC ?_|refine zD ?_|refine zE rfl ?_|refine zF ?_|refine zG ?_|refine zH ?_|refine zI ?_|refine zJ ?_|refine zK ?_|refine zL rfl ?_|refine zN rfl ?_)
  refine wp_ldn H (by repeat (first | exact List.Mem.head _ | apply List.Mem.tail)) rfl ?_
  refine wp_call (wpC_fn (b := Tryz.a92) rfl rfl ?_)
  unfold Tryz.a92
  refine wp_box H rfl fun pm S4 H => ?_
  refine wp_ret ⟨rfl, ?_⟩
  show wp EM _ _ _
  refine wp_bind (wp_rngX (Done := fun pd S' => pd = some .ret ∧ ∃ ro', Cx S [] S' [.obj t (.row [B true]), .obj q (.row (ringCs a r cn))] ro') H (by intro i e; cases e) ?_ ?_ ?_)
  · intro l S5 H
    refine wpC_fn (b := Tryz.a147) rfl rfl ?_
    unfold Tryz.a147 Tryz.a147x4 Tryz.a147x3 Tryz.a147x2 Tryz.a147x1 Tryz.a147x0
    repeat (first|refine zA ?_|refine zB rfl ?_|refine zC ?_|refine zD ?_|refine zE rfl ?_|refine zF ?_|refine zG ?_|refine zH ?_|refine zI ?_|refine zJ ?_|refine zK ?_|refine zL rfl ?_|refine zN rfl ?_)
    refine wp_ld H (by repeat (first | exact List.Mem.head _ | apply List.Mem.tail)) rfl ?_
    have HL := H
    clear H
    have hyd : ∀ (i : Nat) S6 (ro' : List Fct), i ≤ cn → Fct.pt pc 0 [I (cn : Int)] ∈ ro' → Cx S [] S6 [.obj l (.loop .ready none 2 fun v10 => Tryz.a140x3 (.ptr pc 0) (.ptr q 0) (.ptr t 0) v10), .obj t (.row [B false]), .obj q (.row [I 0, I 0, I 0, I 0])] ro' →
        wpC EM (.yd l) [I (i : Int), .agg (ringCs a r i)] S6 fun v S' => (i < cn ∧ v = B true ∧ Cx S [] S' [.obj l (.loop .ready none 2 fun v10 => Tryz.a140x3 (.ptr pc 0) (.ptr q 0) (.ptr t 0) v10), .obj t (.row [B false]), .obj q (.row [I 0, I 0, I 0, I 0])] ro') ∨ (i = cn ∧ v = B false ∧ Cx S [] S' [.obj l (.loop .done (some .ret) 2 fun v10 => Tryz.a140x3 (.ptr pc 0) (.ptr q 0) (.ptr t 0) v10), .obj t (.row [B true]), .obj q (.row (ringCs a r cn))] ro') := by
      intro i S6 ro' hi hpc H
      refine wpC_ydX H 0 rfl rfl ?_
      unfold Tryz.a140x3 Tryz.a140x2 Tryz.a140x1
      refine wp_alloc H fun z S7 H => ?_
      refine wp_store (n := 4) H 0 (c := [I 0, I 0, I 0, I 0]) rfl rfl rfl (by simp) fun S8 H => ?_
      have H : Cx S [] S8 [.obj z (.row (ringCs a r i)), .obj l (.loop .ready none 2 fun v10 => Tryz.a140x3 (.ptr pc 0) (.ptr q 0) (.ptr t 0) v10), .obj t (.row [B false]), .obj q (.row [I 0, I 0, I 0, I 0])] ro' := H
      refine wp_startO H 1 rfl fun S9 H => ?_
      refine wp_bind ?_
      refine wp_ld H hpc rfl ?_
      by_cases e : i = cn
      · refine wp_eql_t (by omega) ?_
        repeat (first|refine zA ?_|refine zB rfl ?_|refine zC ?_|refine zD ?_|refine zE rfl ?_|refine zF ?_|refine zG ?_|refine zH ?_|refine zI ?_|refine zJ ?_|refine zK ?_|refine zL rfl ?_|refine zN rfl ?_)
        refine wp_loadoa (n := 4) H 0 rfl (by simp [ringCs]) ?_
        refine wp_store (n := 4) H 3 (c := [I 0, I 0, I 0, I 0]) rfl rfl rfl (by simp) fun S10 H => ?_
        refine wp_store (n := 1) H 2 (c := [B false]) rfl rfl rfl (by simp) fun S11 H => ?_
        refine wp_ret ⟨_, _, H.dropAt 0, rfl, .inr ⟨by simp, fun S2 H => .inr ⟨e, rfl, ?_⟩⟩⟩
        rw [← e]
        exact H
      · refine wp_eql_f (by omega) ?_
        repeat (first|refine zA ?_|refine zB rfl ?_|refine zC ?_|refine zD ?_|refine zE rfl ?_|refine zF ?_|refine zG ?_|refine zH ?_|refine zI ?_|refine zJ ?_|refine zK ?_|refine zL rfl ?_|refine zN rfl ?_)
        refine wp_ret ?_
        show wp EM _ _ _
        refine wp_ret ⟨_, _, H.dropAt 0, rfl, .inl ⟨rfl, fun S2 H => .inl ⟨by omega, rfl, H⟩⟩⟩
    have bd := fun (i : Nat) (hi : i ≤ cn) => ringAt_bd (c := (i : Int)) hq (by omega) (by omega)
    refine wp_bind (wp_loop (wpL_for cn (fun i vs S' => vs = [I (i : Int)] ∧ Cx S [] S' [.obj l (.loop .ready none 2 fun v10 => Tryz.a140x3 (.ptr pc 0) (.ptr q 0) (.ptr t 0) v10), .obj t (.row [B false]), .obj q (.row [I 0, I 0, I 0, I 0])] _) ?_ ?_ ⟨rfl, HL⟩))
    · rintro i vs S6 hi ⟨rfl, H⟩
      obtain ⟨m1, m2, m3, m4⟩ := bd i (by omega)
      refine wp_lss_t (by omega) ?_
      repeat (first|refine zA ?_|refine zB rfl ?_|refine zC ?_|refine zD ?_|refine zE rfl ?_|refine zF ?_|refine zG ?_|refine zH ?_|refine zI ?_|refine zJ ?_|refine zK ?_|refine zL rfl ?_|refine zN rfl ?_)
      refine wp_bind ?_
      repeat (first|refine zA ?_|refine zB rfl ?_|refine zC ?_|refine zD ?_|refine zE rfl ?_|refine zF ?_|refine zG ?_|refine zH ?_|refine zI ?_|refine zJ ?_|refine zK ?_|refine zL rfl ?_|refine zN rfl ?_)
      refine wp_ld H (by repeat (first | exact List.Mem.head _ | apply List.Mem.tail)) rfl ?_
      repeat (first|refine zA ?_|refine zB rfl ?_|refine zC ?_|refine zD ?_|refine zE rfl ?_|refine zF ?_|refine zG ?_|refine zH ?_|refine zI ?_|refine zJ ?_|refine zK ?_|refine zL rfl ?_|refine zN rfl ?_)
      refine wp_ld H (by repeat (first | exact List.Mem.head _ | apply List.Mem.tail)) rfl ?_
      refine wp_add64 (by omega) (by omega) ?_
      refine wp_mul64 (by omega) (by omega) ?_
      refine wp_add64 (by omega) (by omega) ?_
      have e : a + (i : Int) * (r + 2) = ringAt a r i := rfl
      rw [e]
      refine wp_add64 (by omega) (by omega) ?_
      refine wp_add64 (by omega) (by omega) ?_
      repeat (first|refine zA ?_|refine zB rfl ?_|refine zC ?_|refine zD ?_|refine zE rfl ?_|refine zF ?_|refine zG ?_|refine zH ?_|refine zI ?_|refine zJ ?_|refine zK ?_|refine zL rfl ?_|refine zN rfl ?_)
      refine wp_ld H (by repeat (first | exact List.Mem.head _ | apply List.Mem.tail)) rfl ?_
      refine wp_op (v := .agg (ringCs a r i)) rfl ?_
      refine wp_call (wpC_mono (hyd i S6 _ (by omega) (by repeat (first | exact List.Mem.head _ | apply List.Mem.tail)) H) fun v S7 q => ?_)
      rcases q with ⟨_, rfl, H⟩ | ⟨e, _⟩
      · refine wp_notT ?_
        repeat (first|refine zA ?_|refine zB rfl ?_|refine zC ?_|refine zD ?_|refine zE rfl ?_|refine zF ?_|refine zG ?_|refine zH ?_|refine zI ?_|refine zJ ?_|refine zK ?_|refine zL rfl ?_|refine zN rfl ?_)
        refine wp_ret ?_
        show wp EM _ _ _
        refine wp_add64 (by omega) (by omega) ?_
        exact wp_ret (.inl ⟨rfl, rfl, H⟩)
      · omega
    · rintro vs S6 ⟨rfl, H⟩
      obtain ⟨m1, m2, m3, m4⟩ := bd cn (by omega)
      refine wp_lss_t (by omega) ?_
      repeat (first|refine zA ?_|refine zB rfl ?_|refine zC ?_|refine zD ?_|refine zE rfl ?_|refine zF ?_|refine zG ?_|refine zH ?_|refine zI ?_|refine zJ ?_|refine zK ?_|refine zL rfl ?_|refine zN rfl ?_)
      refine wp_bind ?_
      repeat (first|refine zA ?_|refine zB rfl ?_|refine zC ?_|refine zD ?_|refine zE rfl ?_|refine zF ?_|refine zG ?_|refine zH ?_|refine zI ?_|refine zJ ?_|refine zK ?_|refine zL rfl ?_|refine zN rfl ?_)
      refine wp_ld H (by repeat (first | exact List.Mem.head _ | apply List.Mem.tail)) rfl ?_
      repeat (first|refine zA ?_|refine zB rfl ?_|refine zC ?_|refine zD ?_|refine zE rfl ?_|refine zF ?_|refine zG ?_|refine zH ?_|refine zI ?_|refine zJ ?_|refine zK ?_|refine zL rfl ?_|refine zN rfl ?_)
      refine wp_ld H (by repeat (first | exact List.Mem.head _ | apply List.Mem.tail)) rfl ?_
      refine wp_add64 (by omega) (by omega) ?_
      refine wp_mul64 (by omega) (by omega) ?_
      refine wp_add64 (by omega) (by omega) ?_
      have e : a + (cn : Int) * (r + 2) = ringAt a r cn := rfl
      rw [e]
      refine wp_add64 (by omega) (by omega) ?_
      refine wp_add64 (by omega) (by omega) ?_
      repeat (first|refine zA ?_|refine zB rfl ?_|refine zC ?_|refine zD ?_|refine zE rfl ?_|refine zF ?_|refine zG ?_|refine zH ?_|refine zI ?_|refine zJ ?_|refine zK ?_|refine zL rfl ?_|refine zN rfl ?_)
      refine wp_ld H (by repeat (first | exact List.Mem.head _ | apply List.Mem.tail)) rfl ?_
      refine wp_op (v := .agg (ringCs a r cn)) rfl ?_
      refine wp_call (wpC_mono (hyd cn S6 _ (by omega) (by repeat (first | exact List.Mem.head _ | apply List.Mem.tail)) H) fun v S7 q => ?_)
      rcases q with ⟨e, _⟩ | ⟨_, rfl, H⟩
      · omega
      · refine wp_notF ?_
        repeat (first|refine zA ?_|refine zB rfl ?_|refine zC ?_|refine zD ?_|refine zE rfl ?_|refine zF ?_|refine zG ?_|refine zH ?_|refine zI ?_|refine zJ ?_|refine zK ?_|refine zL rfl ?_|refine zN rfl ?_)
        refine wp_ret ⟨by simp, rfl, .done, some .ret, 2, _, H.oh _ (List.Mem.head _), by simp, fun S2 g1 g2 => ⟨rfl, _, H.other (n := 0) rfl g1 g2⟩⟩
  · rintro S5 ⟨e, _⟩; cases e
  · rintro tg S5 ⟨e, ro', H⟩
    cases e
    refine ⟨.inr rfl, ?_⟩
    refine wp_loadoa (n := 4) H 1 rfl (by simp [ringCs]) ?_
    refine wp_row (j := 0) H 0 rfl rfl ?_
    exact wp_ret ⟨rfl, rfl, H.grows⟩
end Go.Abs
namespace Go.Abs
open Go.Proofs
set_option maxRecDepth 100000
set_option linter.unusedVariables false
/-! ### operations are begun: their parts -/
section
variable {B0 S : AH} {W : List Nat} {own : List Own} {ro : List Fct} {Q : Post} {k : AV → AC}
theorem wp_bsl1 {M : Mach} (H : Cx B0 W S own ro) {z x : AV} (hx : Fv x) (h : ∀ v S1, Fv v → Cx B0 W S1 own ro → wp M (k v) S1 Q) : wp M (.op (.bslice 1 1 [z] [(0, 1, x)]) k) S Q := by
  refine wp_op (v := .sl S.next 0 1 1) (S1 := S.new (.row x.cells)) ?_ (h _ _ ⟨rfl, rfl⟩ (H.grow (Grows.new S _)))
  show nBslice 1 1 [z] [(0, 1, x)] S = _
  unfold nBslice
  have e0 : repZero [z] 1 = [z] := rfl
  have e1 : (not (odd x) && Nat.beq (lenL x.cells) 1 && Nat.ble (Nat.add 0 1) (lenL [z])) = true := by
    rw [hx.1, hx.2]; rfl
  have e2 : fillP [z] [(0, 1, x)] = some [x] := by
    unfold fillP
    rw [e1, hx.2]; rfl
  simp only [e0, e2]
  rw [hx.2]
  rfl
theorem runsB {n : Nat} {x y : AV} (hx : Fv x) (hy : Fv y) : wp EM (.op (.box x) fun v1 => .op (.box y) fun v2 => .op (.alloc [Np]) fun v3 => .op (.alloc [B false]) fun v4 => .op (.store 1 v4 (B false)) fun v5 => .ret .ret [.fn (.func n) [] [v4, v1, v3, v2]]) S fun t vs S' => t = .ret ∧ (Fv (oneOf vs) ∧ Grows S S') := by
  have H : Cx S [] S [] [] := Cx.enter (by simp)
  refine wp_box H hx.1 fun p S1 H => ?_
  refine wp_box H hy.1 fun q S2 H => ?_
  refine wp_alloc H fun a S3 H => ?_
  refine wp_alloc H fun b S4 H => ?_
  refine wp_store H 0 (c := [B false]) rfl rfl rfl (by simp) fun S5 H => ?_
  exact wp_ret ⟨rfl, fvFn, H.grows⟩
variable {x y : AV}
theorem runsPass_ok (hx : Fv x) (hy : Fv y) : wpC EM (.fn (.func 159) [] []) [x, y] S fun r S' => Fv r ∧ Grows S S' := wpC_fn (b := Tryz.a159) rfl rfl (runsB hx hy)
theorem runsTake_ok (hx : Fv x) (hy : Fv y) : wpC EM (.fn (.func 165) [] []) [x, y] S fun r S' => Fv r ∧ Grows S S' := wpC_fn (b := Tryz.a165) rfl rfl (runsB hx hy)
theorem runsSend_ok (hx : Fv x) (hy : Fv y) : wpC EM (.fn (.func 178) [] []) [x, y] S fun r S' => Fv r ∧ Grows S S' := wpC_fn (b := Tryz.a178) rfl rfl (runsB hx hy)
theorem runsDrop_ok (hx : Fv x) (hy : Fv y) : wpC EM (.fn (.func 190) [] []) [x, y] S fun r S' => Fv r ∧ Grows S S' := wpC_fn (b := Tryz.a190) rfl rfl (runsB hx hy)
theorem runsGive_ok (hx : Fv x) (hy : Fv y) : wpC EM (.fn (.func 237) [] []) [x, y] S fun r S' => Fv r ∧ Grows S S' := wpC_fn (b := Tryz.a237) rfl rfl (runsB hx hy)
theorem runsKey_ok (hx : Fv x) (hy : Fv y) : wpC EM (.fn (.func 244) [] []) [x, y] S fun r S' => Fv r ∧ Grows S S' := wpC_fn (b := Tryz.a244) rfl rfl (runsB hx hy)
theorem runsTurn_ok (hx : Fv x) (hy : Fv y) : wpC EM (.fn (.func 250) [] []) [x, y] S fun r S' => Fv r ∧ Grows S S' := wpC_fn (b := Tryz.a250) rfl rfl (runsB hx hy)
theorem runsFront_ok (hx : Fv x) (hy : Fv y) : wpC EM (.fn (.func 253) [] []) [x, y] S fun r S' => Fv r ∧ Grows S S' := wpC_fn (b := Tryz.a253) rfl rfl (runsB hx hy)
theorem runsKeyOf_ok (hx : Fv x) (hy : Fv y) : wpC EM (.fn (.func 259) [] []) [x, y] S fun r S' => Fv r ∧ Grows S S' := wpC_fn (b := Tryz.a259) rfl rfl (runsB hx hy)
theorem runsPut_ok (hx : Fv x) (hy : Fv y) : wpC EM (.fn (.func 264) [] []) [x, y] S fun r S' => Fv r ∧ Grows S S' := wpC_fn (b := Tryz.a264) rfl rfl (runsB hx hy)
theorem runsBal_ok (hx : Fv x) (hy : Fv y) : wpC EM (.fn (.func 272) [] []) [x, y] S fun r S' => Fv r ∧ Grows S S' := wpC_fn (b := Tryz.a272) rfl rfl (runsB hx hy)
theorem once_ok (hx : Fv x) : wpC EM (.fn (.func 171) [] []) [x] S fun r S' => Fv r ∧ Grows S S' := by
  refine wpC_fn (b := Tryz.a171) rfl rfl ?_
  have H : Cx S [] S [] [] := Cx.enter (by simp)
  unfold Tryz.a171
  refine wp_box H hx.1 fun p S1 H => ?_
  exact wp_ret ⟨rfl, fvFn, H.grows⟩
theorem turn_ok {a b : Int} (hx : Fv x) : wpC EM (.fn (.func 184) [] []) [x, I a, I b] S fun r S' => Fv r ∧ Grows S S' := by
  refine wpC_fn (b := Tryz.a184) rfl rfl ?_
  have H : Cx S [] S [] [] := Cx.enter (by simp)
  unfold Tryz.a184
  refine wp_box H hx.1 fun p S1 H => ?_
  refine wp_box H rfl fun p S1 H => ?_
  refine wp_box H rfl fun p S1 H => ?_
  refine wp_callG H (runsTurn_ok fvFn fvNf) fun v S2 hv H => ?_
  exact wp_ret ⟨rfl, hv, H.grows⟩
theorem give_ok (hx : Fv x) : wpC EM (.fn (.func 170) [] []) [x] S fun r S' => Fv r ∧ Grows S S' := by
  refine wpC_fn (b := Tryz.a170) rfl rfl ?_
  have H : Cx S [] S [] [] := Cx.enter (by simp)
  unfold Tryz.a170
  refine wp_box H hx.1 fun p S1 H => ?_
  refine wp_callG H (runsGive_ok fvFn fvNf) fun v S2 hv H => ?_
  exact wp_ret ⟨rfl, hv, H.grows⟩
theorem balance_ok (hx : Fv x) : wpC EM (.fn (.func 193) [] []) [x] S fun r S' => Fv r ∧ Grows S S' := by
  refine wpC_fn (b := Tryz.a193) rfl rfl ?_
  have H : Cx S [] S [] [] := Cx.enter (by simp)
  unfold Tryz.a193
  refine wp_box H hx.1 fun p S1 H => ?_
  refine wp_callG H (runsBal_ok fvFn fvNf) fun v S2 hv H => ?_
  exact wp_ret ⟨rfl, hv, H.grows⟩
theorem lays_ok (hx : Fv x) (hy : Fv y) : wpC EM (.fn (.func 176) [] []) [x, y] S fun r S' => Fv r ∧ Grows S S' := by
  refine wpC_fn (b := Tryz.a176) rfl rfl ?_
  have H : Cx S [] S [] [] := Cx.enter (by simp)
  unfold Tryz.a176
  refine wp_box H hx.1 fun p S1 H => ?_
  refine wp_box H hy.1 fun p S1 H => ?_
  refine wp_callG H (runsKey_ok fvFn fvNf) fun v S2 hv H => ?_
  exact wp_ret ⟨rfl, hv, H.grows⟩
theorem asks_ok (hx : Fv x) (hy : Fv y) : wpC EM (.fn (.func 186) [] []) [x, y] S fun r S' => Fv r ∧ Grows S S' := by
  refine wpC_fn (b := Tryz.a186) rfl rfl ?_
  have H : Cx S [] S [] [] := Cx.enter (by simp)
  unfold Tryz.a186
  refine wp_box H hx.1 fun p S1 H => ?_
  refine wp_box H hy.1 fun p S1 H => ?_
  refine wp_callG H (runsKeyOf_ok fvFn fvFn) fun v S2 hv H => ?_
  exact wp_ret ⟨rfl, hv, H.grows⟩
theorem owns_ok (hx : Fv x) (hy : Fv y) : wpC EM (.fn (.func 198) [] []) [x, y] S fun r S' => Fv r ∧ Grows S S' := by
  refine wpC_fn (b := Tryz.a198) rfl rfl ?_
  have H : Cx S [] S [] [] := Cx.enter (by simp)
  unfold Tryz.a198
  refine wp_box H hx.1 fun p S1 H => ?_
  refine wp_box H hy.1 fun p S1 H => ?_
  refine wp_callG H (once_ok fvFn) fun v S2 hv H => ?_
  exact wp_ret ⟨rfl, hv, H.grows⟩
theorem put_ok {h : Int} (hx : Fv x) (hy : Fv y) : wpC EM (.fn (.func 188) [] []) [x, y, I h] S fun r S' => Fv r ∧ Grows S S' := by
  refine wpC_fn (b := Tryz.a188) rfl rfl ?_
  have H : Cx S [] S [] [] := Cx.enter (by simp)
  unfold Tryz.a188
  refine wp_box H hx.1 fun p S1 H => ?_
  refine wp_box H hy.1 fun p S1 H => ?_
  refine wp_box H rfl fun p S1 H => ?_
  refine wp_callG H (runsPut_ok fvFn fvFn) fun v S2 hv H => ?_
  exact wp_ret ⟨rfl, hv, H.grows⟩
theorem front_ok {a b c d : Int} (hx : Fv x) : wpC EM (.fn (.func 185) [] []) [x, .agg [I a, I b, I c, I d]] S fun r S' => Fv r ∧ Grows S S' := by
  refine wpC_fn (b := Tryz.a185) rfl rfl ?_
  have H : Cx S [] S [] [] := Cx.enter (by simp)
  unfold Tryz.a185
  refine wp_box H hx.1 fun p S1 H => ?_
  refine wp_box H rfl fun p S1 H => ?_
  refine wp_callG H (runsFront_ok fvFn fvFn) fun v S2 hv H => ?_
  exact wp_ret ⟨rfl, hv, H.grows⟩
theorem store_ok {a w : Int} : wpC EM (.fn (.func 204) [] []) [I a, U w] S fun r S' => Fv r ∧ Grows S S' := by
  refine wpC_fn (b := Tryz.a204) rfl rfl ?_
  have H : Cx S [] S [] [] := Cx.enter (by simp)
  unfold Tryz.a204
  refine wp_box H rfl fun p S1 H => ?_
  refine wp_box H rfl fun p S1 H => ?_
  refine wp_callG H (once_ok fvFn) fun v S2 hv H => ?_
  exact wp_ret ⟨rfl, hv, H.grows⟩
end
/-! ### scripts: what tells the parts -/
def Tell1 (B0 : AH) (W : List Nat) (ro : List Fct) (l : Nat) (P P' : List Own → Prop) : Prop := ∀ e E own S ro', (∀ φ ∈ ro, φ ∈ ro') → Fv e → P own → Cx B0 W S (E ++ own) ro' → wpC EM (.yd l) [e] S fun v S' => v = B true ∧ ∃ own', Cx B0 W S' (E ++ own') ro' ∧ P' own'
def but32 (c c' : List AV) : Prop := c'.length = c.length ∧ ∀ j, j ≠ 32 → c'[j]? = c[j]?
def Script (B0 : AH) (W : List Nat) (ro : List Fct) (f : AV) (x : Nat) (c : List AV) : Prop := ∀ l (P : Nat → List Own → Prop), (∀ n, n < 16 → Tell1 B0 W ro l (P n) (P (n + 1))) → ∀ E own S, P 0 own → Cx B0 W S (.obj x (.row c) :: (E ++ own)) ro →
  wpC EM f [.yd l] S fun _ S' => ∃ n c' own', 1 ≤ n ∧ n ≤ 16 ∧ but32 c c' ∧ Cx B0 W S' (.obj x (.row c') :: (E ++ own')) ro ∧ P n own'
theorem but32.rfl' {c : List AV} : but32 c c := ⟨rfl, fun _ _ => rfl⟩
section
variable {B0 S : AH} {W : List Nat} {own : List Own} {ro : List Fct}
theorem script_release {x b1 b2 b3 b4 : Nat} {c : List AV} (h1 : Fct.pt b1 0 [.ptr x 0] ∈ ro) : Script B0 W ro (.fn (.func 158) [] [.ptr b1 0, .ptr b2 0, .ptr b3 0, .ptr b4 0]) x c := by
  intro l P hT E own S hP H
  refine wpC_fn (b := Tryz.a158) rfl rfl ?_
  unfold Tryz.a158 Tryz.a158x3 Tryz.a158x2 Tryz.a158x1 Tryz.a158x0
  have fx : Fv (.ptr x 0) := ⟨rfl, rfl⟩
  refine wp_callG H (runsPass_ok fvFn fvFn) fun p S1 hp H => ?_
  repeat (first|refine zA ?_|refine zB rfl ?_|refine zC ?_|refine zD ?_|refine zE rfl ?_|refine zF ?_|refine zG ?_|refine zH ?_|refine zI ?_|refine zJ ?_|refine zK ?_|refine zL rfl ?_|refine zN rfl ?_)
  refine wp_call (wpC_mono (hT 0 (by omega) _ (_ :: _) _ _ _ (fun _ h => h) hp hP H) fun r S2 q => ?_)
  obtain ⟨rfl, own, H, hP⟩ := q
  repeat (first|refine zA ?_|refine zB rfl ?_|refine zC ?_|refine zD ?_|refine zE rfl ?_|refine zF ?_|refine zG ?_|refine zH ?_|refine zI ?_|refine zJ ?_|refine zK ?_|refine zL rfl ?_|refine zN rfl ?_)
  refine wp_callG H (runsTake_ok fvFn fvFn) fun p S1 hp H => ?_
  repeat (first|refine zA ?_|refine zB rfl ?_|refine zC ?_|refine zD ?_|refine zE rfl ?_|refine zF ?_|refine zG ?_|refine zH ?_|refine zI ?_|refine zJ ?_|refine zK ?_|refine zL rfl ?_|refine zN rfl ?_)
  refine wp_call (wpC_mono (hT 1 (by omega) _ (_ :: _) _ _ _ (fun _ h => h) hp hP H) fun r S2 q => ?_)
  obtain ⟨rfl, own, H, hP⟩ := q
  repeat (first|refine zA ?_|refine zB rfl ?_|refine zC ?_|refine zD ?_|refine zE rfl ?_|refine zF ?_|refine zG ?_|refine zH ?_|refine zI ?_|refine zJ ?_|refine zK ?_|refine zL rfl ?_|refine zN rfl ?_)
  refine wp_callG H (once_ok fvFn) fun p S1 hp H => ?_
  repeat (first|refine zA ?_|refine zB rfl ?_|refine zC ?_|refine zD ?_|refine zE rfl ?_|refine zF ?_|refine zG ?_|refine zH ?_|refine zI ?_|refine zJ ?_|refine zK ?_|refine zL rfl ?_|refine zN rfl ?_)
  refine wp_call (wpC_mono (hT 2 (by omega) _ (_ :: _) _ _ _ (fun _ h => h) hp hP H) fun r S2 q => ?_)
  obtain ⟨rfl, own, H, hP⟩ := q
  repeat (first|refine zA ?_|refine zB rfl ?_|refine zC ?_|refine zD ?_|refine zE rfl ?_|refine zF ?_|refine zG ?_|refine zH ?_|refine zI ?_|refine zJ ?_|refine zK ?_|refine zL rfl ?_|refine zN rfl ?_)
  refine wp_ld H h1 rfl ?_
  repeat (first|refine zA ?_|refine zB rfl ?_|refine zC ?_|refine zD ?_|refine zE rfl ?_|refine zF ?_|refine zG ?_|refine zH ?_|refine zI ?_|refine zJ ?_|refine zK ?_|refine zL rfl ?_|refine zN rfl ?_)
  refine wp_callG H (lays_ok fx fvFn) fun p S1 hp H => ?_
  repeat (first|refine zA ?_|refine zB rfl ?_|refine zC ?_|refine zD ?_|refine zE rfl ?_|refine zF ?_|refine zG ?_|refine zH ?_|refine zI ?_|refine zJ ?_|refine zK ?_|refine zL rfl ?_|refine zN rfl ?_)
  refine wp_call (wpC_mono (hT 3 (by omega) _ (_ :: _) _ _ _ (fun _ h => h) hp hP H) fun r S2 q => ?_)
  obtain ⟨rfl, own, H, hP⟩ := q
  repeat (first|refine zA ?_|refine zB rfl ?_|refine zC ?_|refine zD ?_|refine zE rfl ?_|refine zF ?_|refine zG ?_|refine zH ?_|refine zI ?_|refine zJ ?_|refine zK ?_|refine zL rfl ?_|refine zN rfl ?_)
  refine wp_callG H (runsSend_ok fvFn fvFn) fun p S1 hp H => ?_
  repeat (first|refine zA ?_|refine zB rfl ?_|refine zC ?_|refine zD ?_|refine zE rfl ?_|refine zF ?_|refine zG ?_|refine zH ?_|refine zI ?_|refine zJ ?_|refine zK ?_|refine zL rfl ?_|refine zN rfl ?_)
  refine wp_call (wpC_mono (hT 4 (by omega) _ (_ :: _) _ _ _ (fun _ h => h) hp hP H) fun r S2 q => ?_)
  obtain ⟨rfl, own, H, hP⟩ := q
  repeat (first|refine zA ?_|refine zB rfl ?_|refine zC ?_|refine zD ?_|refine zE rfl ?_|refine zF ?_|refine zG ?_|refine zH ?_|refine zI ?_|refine zJ ?_|refine zK ?_|refine zL rfl ?_|refine zN rfl ?_)
  exact wp_ret ⟨rfl, 5, c, own, by omega, by omega, but32.rfl', H, hP⟩
theorem script_pick {x b1 : Nat} {c : List AV} (h1 : Fct.pt b1 0 [.ptr x 0] ∈ ro) : Script B0 W ro (.fn (.func 197) [] [.ptr b1 0]) x c := by
  intro l P hT E own S hP H
  refine wpC_fn (b := Tryz.a197) rfl rfl ?_
  unfold Tryz.a197
  have fx : Fv (.ptr x 0) := ⟨rfl, rfl⟩
  refine wp_ld H h1 rfl ?_
  refine wp_callG H (owns_ok fx fvFn) fun p S1 hp H => ?_
  repeat (first|refine zA ?_|refine zB rfl ?_|refine zC ?_|refine zD ?_|refine zE rfl ?_|refine zF ?_|refine zG ?_|refine zH ?_|refine zI ?_|refine zJ ?_|refine zK ?_|refine zL rfl ?_|refine zN rfl ?_)
  refine wp_call (wpC_mono (hT 0 (by omega) _ (_ :: _) _ _ _ (fun _ h => h) hp hP H) fun r S2 q => ?_)
  obtain ⟨rfl, own, H, hP⟩ := q
  repeat (first|refine zA ?_|refine zB rfl ?_|refine zC ?_|refine zD ?_|refine zE rfl ?_|refine zF ?_|refine zG ?_|refine zH ?_|refine zI ?_|refine zJ ?_|refine zK ?_|refine zL rfl ?_|refine zN rfl ?_)
  exact wp_ret ⟨rfl, 1, c, own, by omega, by omega, but32.rfl', H, hP⟩
theorem script_serve {x b1 b2 b3 : Nat} {c : List AV} {a : Int} (h1 : Fct.pt b1 0 [I a] ∈ ro) (h2 : Fct.pt b2 0 [.ptr x 0] ∈ ro) : Script B0 W ro (.fn (.func 201) [] [.ptr b1 0, .ptr b2 0, .ptr b3 0]) x c := by
  intro l P hT E own S hP H
  refine wpC_fn (b := Tryz.a201) rfl rfl ?_
  unfold Tryz.a201 Tryz.a201x1 Tryz.a201x0
  have fx : Fv (.ptr x 0) := ⟨rfl, rfl⟩
  refine wp_callG H (once_ok fvFn) fun p S1 hp H => ?_
  repeat (first|refine zA ?_|refine zB rfl ?_|refine zC ?_|refine zD ?_|refine zE rfl ?_|refine zF ?_|refine zG ?_|refine zH ?_|refine zI ?_|refine zJ ?_|refine zK ?_|refine zL rfl ?_|refine zN rfl ?_)
  refine wp_call (wpC_mono (hT 0 (by omega) _ (_ :: _) _ _ _ (fun _ h => h) hp hP H) fun r S2 q => ?_)
  obtain ⟨rfl, own, H, hP⟩ := q
  repeat (first|refine zA ?_|refine zB rfl ?_|refine zC ?_|refine zD ?_|refine zE rfl ?_|refine zF ?_|refine zG ?_|refine zH ?_|refine zI ?_|refine zJ ?_|refine zK ?_|refine zL rfl ?_|refine zN rfl ?_)
  refine wp_ld H h1 rfl ?_
  repeat (first|refine zA ?_|refine zB rfl ?_|refine zC ?_|refine zD ?_|refine zE rfl ?_|refine zF ?_|refine zG ?_|refine zH ?_|refine zI ?_|refine zJ ?_|refine zK ?_|refine zL rfl ?_|refine zN rfl ?_)
  refine wp_callG H store_ok fun p S1 hp H => ?_
  repeat (first|refine zA ?_|refine zB rfl ?_|refine zC ?_|refine zD ?_|refine zE rfl ?_|refine zF ?_|refine zG ?_|refine zH ?_|refine zI ?_|refine zJ ?_|refine zK ?_|refine zL rfl ?_|refine zN rfl ?_)
  refine wp_call (wpC_mono (hT 1 (by omega) _ (_ :: _) _ _ _ (fun _ h => h) hp hP H) fun r S2 q => ?_)
  obtain ⟨rfl, own, H, hP⟩ := q
  repeat (first|refine zA ?_|refine zB rfl ?_|refine zC ?_|refine zD ?_|refine zE rfl ?_|refine zF ?_|refine zG ?_|refine zH ?_|refine zI ?_|refine zJ ?_|refine zK ?_|refine zL rfl ?_|refine zN rfl ?_)
  refine wp_ld H h2 rfl ?_
  repeat (first|refine zA ?_|refine zB rfl ?_|refine zC ?_|refine zD ?_|refine zE rfl ?_|refine zF ?_|refine zG ?_|refine zH ?_|refine zI ?_|refine zJ ?_|refine zK ?_|refine zL rfl ?_|refine zN rfl ?_)
  refine wp_callG H (owns_ok fx fvFn) fun p S1 hp H => ?_
  repeat (first|refine zA ?_|refine zB rfl ?_|refine zC ?_|refine zD ?_|refine zE rfl ?_|refine zF ?_|refine zG ?_|refine zH ?_|refine zI ?_|refine zJ ?_|refine zK ?_|refine zL rfl ?_|refine zN rfl ?_)
  refine wp_call (wpC_mono (hT 2 (by omega) _ (_ :: _) _ _ _ (fun _ h => h) hp hP H) fun r S2 q => ?_)
  obtain ⟨rfl, own, H, hP⟩ := q
  repeat (first|refine zA ?_|refine zB rfl ?_|refine zC ?_|refine zD ?_|refine zE rfl ?_|refine zF ?_|refine zG ?_|refine zH ?_|refine zI ?_|refine zJ ?_|refine zK ?_|refine zL rfl ?_|refine zN rfl ?_)
  exact wp_ret ⟨rfl, 3, c, own, by omega, by omega, but32.rfl', H, hP⟩
end
end Go.Abs
namespace Go.Abs
open Go.Proofs
set_option maxRecDepth 100000
set_option linter.unusedVariables false
section
variable {B0 S : AH} {W : List Nat} {own : List Own} {ro : List Fct} {Q : Post} {k : AV → AC} {v : AV}
theorem but32.set {c : List AV} {v : AV} : but32 c (c.set 32 v) := ⟨List.length_set .., fun j hj => by rw [List.getElem?_set, if_neg (fun e => hj e.symm)]⟩
theorem script_complete {x b1 : Nat} {c : List AV} {o cc rr : Int} (h26 : c[26]? = some (I o)) (h23 : c[23]? = some (I rr)) (h30 : c[30]? = some (I cc)) (ho : 0 ≤ o ∧ o < 4096) (hr : 0 ≤ rr ∧ rr < 4096) (hc : 0 ≤ cc ∧ cc < 64)
    (h1 : Fct.pt b1 0 [.ptr x 0] ∈ ro) : Script B0 W ro (.fn (.func 207) [] [.ptr b1 0]) x c := by
  intro l P hT E own S hP H
  refine wpC_fn (b := Tryz.a207) rfl rfl ?_
  unfold Tryz.a207 Tryz.a207x7 Tryz.a207x6 Tryz.a207x5 Tryz.a207x4 Tryz.a207x3 Tryz.a207x2 Tryz.a207x1 Tryz.a207x0
  have fx : Fv (.ptr x 0) := ⟨rfl, rfl⟩
  refine wp_ld H h1 rfl ?_
  refine wp_callG H (owns_ok fx fvFn) fun p S1 hp H => ?_
  repeat (first|refine zA ?_|refine zB rfl ?_|refine zC ?_|refine zD ?_|refine zE rfl ?_|refine zF ?_|refine zG ?_|refine zH ?_|refine zI ?_|refine zJ ?_|refine zK ?_|refine zL rfl ?_|refine zN rfl ?_)
  refine wp_call (wpC_mono (hT 0 (by omega) _ (_ :: _) _ _ _ (fun _ h => h) hp hP H) fun r S2 q => ?_)
  obtain ⟨rfl, own, H, hP⟩ := q
  repeat (first|refine zA ?_|refine zB rfl ?_|refine zC ?_|refine zD ?_|refine zE rfl ?_|refine zF ?_|refine zG ?_|refine zH ?_|refine zI ?_|refine zJ ?_|refine zK ?_|refine zL rfl ?_|refine zN rfl ?_)
  refine wp_ld H h1 rfl ?_
  repeat (first|refine zA ?_|refine zB rfl ?_|refine zC ?_|refine zD ?_|refine zE rfl ?_|refine zF ?_|refine zG ?_|refine zH ?_|refine zI ?_|refine zJ ?_|refine zK ?_|refine zL rfl ?_|refine zN rfl ?_)
  refine wp_callG H (asks_ok fx fvNf) fun p S1 hp H => ?_
  repeat (first|refine zA ?_|refine zB rfl ?_|refine zC ?_|refine zD ?_|refine zE rfl ?_|refine zF ?_|refine zG ?_|refine zH ?_|refine zI ?_|refine zJ ?_|refine zK ?_|refine zL rfl ?_|refine zN rfl ?_)
  refine wp_call (wpC_mono (hT 1 (by omega) _ (_ :: _) _ _ _ (fun _ h => h) hp hP H) fun r S2 q => ?_)
  obtain ⟨rfl, own, H, hP⟩ := q
  repeat (first|refine zA ?_|refine zB rfl ?_|refine zC ?_|refine zD ?_|refine zE rfl ?_|refine zF ?_|refine zG ?_|refine zH ?_|refine zI ?_|refine zJ ?_|refine zK ?_|refine zL rfl ?_|refine zN rfl ?_)
  refine wp_ld H h1 rfl ?_
  repeat (first|refine zA ?_|refine zB rfl ?_|refine zC ?_|refine zD ?_|refine zE rfl ?_|refine zF ?_|refine zG ?_|refine zH ?_|refine zI ?_|refine zJ ?_|refine zK ?_|refine zL rfl ?_|refine zN rfl ?_)
  refine wp_callG H (turn_ok fx) fun p S1 hp H => ?_
  repeat (first|refine zA ?_|refine zB rfl ?_|refine zC ?_|refine zD ?_|refine zE rfl ?_|refine zF ?_|refine zG ?_|refine zH ?_|refine zI ?_|refine zJ ?_|refine zK ?_|refine zL rfl ?_|refine zN rfl ?_)
  refine wp_call (wpC_mono (hT 2 (by omega) _ (_ :: _) _ _ _ (fun _ h => h) hp hP H) fun r S2 q => ?_)
  obtain ⟨rfl, own, H, hP⟩ := q
  repeat (first|refine zA ?_|refine zB rfl ?_|refine zC ?_|refine zD ?_|refine zE rfl ?_|refine zF ?_|refine zG ?_|refine zH ?_|refine zI ?_|refine zJ ?_|refine zK ?_|refine zL rfl ?_|refine zN rfl ?_)
  refine wp_ld H h1 rfl ?_
  repeat (first|refine zA ?_|refine zB rfl ?_|refine zC ?_|refine zD ?_|refine zE rfl ?_|refine zF ?_|refine zG ?_|refine zH ?_|refine zI ?_|refine zJ ?_|refine zK ?_|refine zL rfl ?_|refine zN rfl ?_)
  refine wp_row (j := 26) H 0 rfl h26 ?_
  repeat (first|refine zA ?_|refine zB rfl ?_|refine zC ?_|refine zD ?_|refine zE rfl ?_|refine zF ?_|refine zG ?_|refine zH ?_|refine zI ?_|refine zJ ?_|refine zK ?_|refine zL rfl ?_|refine zN rfl ?_)
  refine wp_ld H h1 rfl ?_
  repeat (first|refine zA ?_|refine zB rfl ?_|refine zC ?_|refine zD ?_|refine zE rfl ?_|refine zF ?_|refine zG ?_|refine zH ?_|refine zI ?_|refine zJ ?_|refine zK ?_|refine zL rfl ?_|refine zN rfl ?_)
  refine wp_row (j := 30) H 0 rfl h30 ?_
  repeat (first|refine zA ?_|refine zB rfl ?_|refine zC ?_|refine zD ?_|refine zE rfl ?_|refine zF ?_|refine zG ?_|refine zH ?_|refine zI ?_|refine zJ ?_|refine zK ?_|refine zL rfl ?_|refine zN rfl ?_)
  refine wp_add64 (by omega) (by omega) ?_
  repeat (first|refine zA ?_|refine zB rfl ?_|refine zC ?_|refine zD ?_|refine zE rfl ?_|refine zF ?_|refine zG ?_|refine zH ?_|refine zI ?_|refine zJ ?_|refine zK ?_|refine zL rfl ?_|refine zN rfl ?_)
  refine wp_callG H store_ok fun p S1 hp H => ?_
  repeat (first|refine zA ?_|refine zB rfl ?_|refine zC ?_|refine zD ?_|refine zE rfl ?_|refine zF ?_|refine zG ?_|refine zH ?_|refine zI ?_|refine zJ ?_|refine zK ?_|refine zL rfl ?_|refine zN rfl ?_)
  refine wp_call (wpC_mono (hT 3 (by omega) _ (_ :: _) _ _ _ (fun _ h => h) hp hP H) fun r S2 q => ?_)
  obtain ⟨rfl, own, H, hP⟩ := q
  repeat (first|refine zA ?_|refine zB rfl ?_|refine zC ?_|refine zD ?_|refine zE rfl ?_|refine zF ?_|refine zG ?_|refine zH ?_|refine zI ?_|refine zJ ?_|refine zK ?_|refine zL rfl ?_|refine zN rfl ?_)
  refine wp_ld H h1 rfl ?_
  repeat (first|refine zA ?_|refine zB rfl ?_|refine zC ?_|refine zD ?_|refine zE rfl ?_|refine zF ?_|refine zG ?_|refine zH ?_|refine zI ?_|refine zJ ?_|refine zK ?_|refine zL rfl ?_|refine zN rfl ?_)
  refine wp_row (j := 23) H 0 rfl h23 ?_
  repeat (first|refine zA ?_|refine zB rfl ?_|refine zC ?_|refine zD ?_|refine zE rfl ?_|refine zF ?_|refine zG ?_|refine zH ?_|refine zI ?_|refine zJ ?_|refine zK ?_|refine zL rfl ?_|refine zN rfl ?_)
  refine wp_ld H h1 rfl ?_
  repeat (first|refine zA ?_|refine zB rfl ?_|refine zC ?_|refine zD ?_|refine zE rfl ?_|refine zF ?_|refine zG ?_|refine zH ?_|refine zI ?_|refine zJ ?_|refine zK ?_|refine zL rfl ?_|refine zN rfl ?_)
  refine wp_row (j := 30) H 0 rfl h30 ?_
  repeat (first|refine zA ?_|refine zB rfl ?_|refine zC ?_|refine zD ?_|refine zE rfl ?_|refine zF ?_|refine zG ?_|refine zH ?_|refine zI ?_|refine zJ ?_|refine zK ?_|refine zL rfl ?_|refine zN rfl ?_)
  refine wp_add64 (by omega) (by omega) ?_
  repeat (first|refine zA ?_|refine zB rfl ?_|refine zC ?_|refine zD ?_|refine zE rfl ?_|refine zF ?_|refine zG ?_|refine zH ?_|refine zI ?_|refine zJ ?_|refine zK ?_|refine zL rfl ?_|refine zN rfl ?_)
  refine wp_callG H store_ok fun p S1 hp H => ?_
  repeat (first|refine zA ?_|refine zB rfl ?_|refine zC ?_|refine zD ?_|refine zE rfl ?_|refine zF ?_|refine zG ?_|refine zH ?_|refine zI ?_|refine zJ ?_|refine zK ?_|refine zL rfl ?_|refine zN rfl ?_)
  refine wp_call (wpC_mono (hT 4 (by omega) _ (_ :: _) _ _ _ (fun _ h => h) hp hP H) fun r S2 q => ?_)
  obtain ⟨rfl, own, H, hP⟩ := q
  repeat (first|refine zA ?_|refine zB rfl ?_|refine zC ?_|refine zD ?_|refine zE rfl ?_|refine zF ?_|refine zG ?_|refine zH ?_|refine zI ?_|refine zJ ?_|refine zK ?_|refine zL rfl ?_|refine zN rfl ?_)
  refine wp_ld H h1 rfl ?_
  repeat (first|refine zA ?_|refine zB rfl ?_|refine zC ?_|refine zD ?_|refine zE rfl ?_|refine zF ?_|refine zG ?_|refine zH ?_|refine zI ?_|refine zJ ?_|refine zK ?_|refine zL rfl ?_|refine zN rfl ?_)
  refine wp_callG H (give_ok fx) fun p S1 hp H => ?_
  repeat (first|refine zA ?_|refine zB rfl ?_|refine zC ?_|refine zD ?_|refine zE rfl ?_|refine zF ?_|refine zG ?_|refine zH ?_|refine zI ?_|refine zJ ?_|refine zK ?_|refine zL rfl ?_|refine zN rfl ?_)
  refine wp_call (wpC_mono (hT 5 (by omega) _ (_ :: _) _ _ _ (fun _ h => h) hp hP H) fun r S2 q => ?_)
  obtain ⟨rfl, own, H, hP⟩ := q
  repeat (first|refine zA ?_|refine zB rfl ?_|refine zC ?_|refine zD ?_|refine zE rfl ?_|refine zF ?_|refine zG ?_|refine zH ?_|refine zI ?_|refine zJ ?_|refine zK ?_|refine zL rfl ?_|refine zN rfl ?_)
  refine wp_ld H h1 rfl ?_
  repeat (first|refine zA ?_|refine zB rfl ?_|refine zC ?_|refine zD ?_|refine zE rfl ?_|refine zF ?_|refine zG ?_|refine zH ?_|refine zI ?_|refine zJ ?_|refine zK ?_|refine zL rfl ?_|refine zN rfl ?_)
  refine wp_callG H (balance_ok fx) fun p S1 hp H => ?_
  repeat (first|refine zA ?_|refine zB rfl ?_|refine zC ?_|refine zD ?_|refine zE rfl ?_|refine zF ?_|refine zG ?_|refine zH ?_|refine zI ?_|refine zJ ?_|refine zK ?_|refine zL rfl ?_|refine zN rfl ?_)
  refine wp_call (wpC_mono (hT 6 (by omega) _ (_ :: _) _ _ _ (fun _ h => h) hp hP H) fun r S2 q => ?_)
  obtain ⟨rfl, own, H, hP⟩ := q
  repeat (first|refine zA ?_|refine zB rfl ?_|refine zC ?_|refine zD ?_|refine zE rfl ?_|refine zF ?_|refine zG ?_|refine zH ?_|refine zI ?_|refine zJ ?_|refine zK ?_|refine zL rfl ?_|refine zN rfl ?_)
  exact wp_ret ⟨rfl, 7, c, own, by omega, by omega, but32.rfl', H, hP⟩
theorem script_take {x b1 b2 b3 : Nat} {c : List AV} {a1 a2 a3 a4 h : Int} (hl : 32 < c.length) (h1 : Fct.pt b1 0 [.ptr x 0] ∈ ro) (h2 : Fct.pt b2 0 [I a1, I a2, I a3, I a4] ∈ ro) (h3 : Fct.pt b3 0 [I h] ∈ ro) :
    Script B0 W ro (.fn (.func 183) [] [.ptr b1 0, .ptr b2 0, .ptr b3 0]) x c := by
  intro l P hT E own S hP H
  refine wpC_fn (b := Tryz.a183) rfl rfl ?_
  unfold Tryz.a183 Tryz.a183x5 Tryz.a183x4 Tryz.a183x3 Tryz.a183x2 Tryz.a183x1 Tryz.a183x0
  have fx : Fv (.ptr x 0) := ⟨rfl, rfl⟩
  refine wp_ld H h1 rfl ?_
  refine wp_ld H h1 rfl ?_
  refine wp_callG H (turn_ok fx) fun p S1 hp H => ?_
  refine wp_ck H h1 rfl (by simp [AV.beq]) ?_
  refine wp_bsl1 H hp fun u S2 hu H => ?_
  repeat (first|refine zA ?_|refine zB rfl ?_|refine zC ?_|refine zD ?_|refine zE rfl ?_|refine zF ?_|refine zG ?_|refine zH ?_|refine zI ?_|refine zJ ?_|refine zK ?_|refine zL rfl ?_|refine zN rfl ?_)
  refine wp_set1 (j := 32) H 0 rfl hl hu fun S3 H => ?_
  have H : Cx B0 W S3 (.obj x (.row (c.set 32 u)) :: (E ++ own)) ro := H
  refine wp_ld H h1 rfl ?_
  refine wp_ldn H h2 rfl ?_
  refine wp_callG H (front_ok fx) fun p S1 hp H => ?_
  repeat (first|refine zA ?_|refine zB rfl ?_|refine zC ?_|refine zD ?_|refine zE rfl ?_|refine zF ?_|refine zG ?_|refine zH ?_|refine zI ?_|refine zJ ?_|refine zK ?_|refine zL rfl ?_|refine zN rfl ?_)
  refine wp_call (wpC_mono (hT 0 (by omega) _ (_ :: _) _ _ _ (fun _ h => h) hp hP H) fun r S2 q => ?_)
  obtain ⟨rfl, own, H, hP⟩ := q
  repeat (first|refine zA ?_|refine zB rfl ?_|refine zC ?_|refine zD ?_|refine zE rfl ?_|refine zF ?_|refine zG ?_|refine zH ?_|refine zI ?_|refine zJ ?_|refine zK ?_|refine zL rfl ?_|refine zN rfl ?_)
  refine wp_ld H h1 rfl ?_
  repeat (first|refine zA ?_|refine zB rfl ?_|refine zC ?_|refine zD ?_|refine zE rfl ?_|refine zF ?_|refine zG ?_|refine zH ?_|refine zI ?_|refine zJ ?_|refine zK ?_|refine zL rfl ?_|refine zN rfl ?_)
  refine wp_callG H (asks_ok fx fvFn) fun p S1 hp H => ?_
  repeat (first|refine zA ?_|refine zB rfl ?_|refine zC ?_|refine zD ?_|refine zE rfl ?_|refine zF ?_|refine zG ?_|refine zH ?_|refine zI ?_|refine zJ ?_|refine zK ?_|refine zL rfl ?_|refine zN rfl ?_)
  refine wp_call (wpC_mono (hT 1 (by omega) _ (_ :: _) _ _ _ (fun _ h => h) hp hP H) fun r S2 q => ?_)
  obtain ⟨rfl, own, H, hP⟩ := q
  repeat (first|refine zA ?_|refine zB rfl ?_|refine zC ?_|refine zD ?_|refine zE rfl ?_|refine zF ?_|refine zG ?_|refine zH ?_|refine zI ?_|refine zJ ?_|refine zK ?_|refine zL rfl ?_|refine zN rfl ?_)
  refine wp_ld H h1 rfl ?_
  repeat (first|refine zA ?_|refine zB rfl ?_|refine zC ?_|refine zD ?_|refine zE rfl ?_|refine zF ?_|refine zG ?_|refine zH ?_|refine zI ?_|refine zJ ?_|refine zK ?_|refine zL rfl ?_|refine zN rfl ?_)
  refine wp_callG H (turn_ok fx) fun p S1 hp H => ?_
  repeat (first|refine zA ?_|refine zB rfl ?_|refine zC ?_|refine zD ?_|refine zE rfl ?_|refine zF ?_|refine zG ?_|refine zH ?_|refine zI ?_|refine zJ ?_|refine zK ?_|refine zL rfl ?_|refine zN rfl ?_)
  refine wp_call (wpC_mono (hT 2 (by omega) _ (_ :: _) _ _ _ (fun _ h => h) hp hP H) fun r S2 q => ?_)
  obtain ⟨rfl, own, H, hP⟩ := q
  repeat (first|refine zA ?_|refine zB rfl ?_|refine zC ?_|refine zD ?_|refine zE rfl ?_|refine zF ?_|refine zG ?_|refine zH ?_|refine zI ?_|refine zJ ?_|refine zK ?_|refine zL rfl ?_|refine zN rfl ?_)
  refine wp_ld H h1 rfl ?_
  repeat (first|refine zA ?_|refine zB rfl ?_|refine zC ?_|refine zD ?_|refine zE rfl ?_|refine zF ?_|refine zG ?_|refine zH ?_|refine zI ?_|refine zJ ?_|refine zK ?_|refine zL rfl ?_|refine zN rfl ?_)
  refine wp_ld H h3 rfl ?_
  repeat (first|refine zA ?_|refine zB rfl ?_|refine zC ?_|refine zD ?_|refine zE rfl ?_|refine zF ?_|refine zG ?_|refine zH ?_|refine zI ?_|refine zJ ?_|refine zK ?_|refine zL rfl ?_|refine zN rfl ?_)
  refine wp_callG H (put_ok fx fvFn) fun p S1 hp H => ?_
  repeat (first|refine zA ?_|refine zB rfl ?_|refine zC ?_|refine zD ?_|refine zE rfl ?_|refine zF ?_|refine zG ?_|refine zH ?_|refine zI ?_|refine zJ ?_|refine zK ?_|refine zL rfl ?_|refine zN rfl ?_)
  refine wp_call (wpC_mono (hT 3 (by omega) _ (_ :: _) _ _ _ (fun _ h => h) hp hP H) fun r S2 q => ?_)
  obtain ⟨rfl, own, H, hP⟩ := q
  repeat (first|refine zA ?_|refine zB rfl ?_|refine zC ?_|refine zD ?_|refine zE rfl ?_|refine zF ?_|refine zG ?_|refine zH ?_|refine zI ?_|refine zJ ?_|refine zK ?_|refine zL rfl ?_|refine zN rfl ?_)
  refine wp_callG H (runsDrop_ok fvFn fvNf) fun p S1 hp H => ?_
  repeat (first|refine zA ?_|refine zB rfl ?_|refine zC ?_|refine zD ?_|refine zE rfl ?_|refine zF ?_|refine zG ?_|refine zH ?_|refine zI ?_|refine zJ ?_|refine zK ?_|refine zL rfl ?_|refine zN rfl ?_)
  refine wp_call (wpC_mono (hT 4 (by omega) _ (_ :: _) _ _ _ (fun _ h => h) hp hP H) fun r S2 q => ?_)
  obtain ⟨rfl, own, H, hP⟩ := q
  repeat (first|refine zA ?_|refine zB rfl ?_|refine zC ?_|refine zD ?_|refine zE rfl ?_|refine zF ?_|refine zG ?_|refine zH ?_|refine zI ?_|refine zJ ?_|refine zK ?_|refine zL rfl ?_|refine zN rfl ?_)
  refine wp_ld H h1 rfl ?_
  repeat (first|refine zA ?_|refine zB rfl ?_|refine zC ?_|refine zD ?_|refine zE rfl ?_|refine zF ?_|refine zG ?_|refine zH ?_|refine zI ?_|refine zJ ?_|refine zK ?_|refine zL rfl ?_|refine zN rfl ?_)
  refine wp_callG H (balance_ok fx) fun p S1 hp H => ?_
  repeat (first|refine zA ?_|refine zB rfl ?_|refine zC ?_|refine zD ?_|refine zE rfl ?_|refine zF ?_|refine zG ?_|refine zH ?_|refine zI ?_|refine zJ ?_|refine zK ?_|refine zL rfl ?_|refine zN rfl ?_)
  refine wp_call (wpC_mono (hT 5 (by omega) _ (_ :: _) _ _ _ (fun _ h => h) hp hP H) fun r S2 q => ?_)
  obtain ⟨rfl, own, H, hP⟩ := q
  repeat (first|refine zA ?_|refine zB rfl ?_|refine zC ?_|refine zD ?_|refine zE rfl ?_|refine zF ?_|refine zG ?_|refine zH ?_|refine zI ?_|refine zJ ?_|refine zK ?_|refine zL rfl ?_|refine zN rfl ?_)
  exact wp_ret ⟨rfl, 6, _, own, by omega, by omega, but32.set, H, hP⟩
def same3 (c c' : List AV) : Prop := c'.length = c.length ∧ ∀ j, j ≠ 31 → j ≠ 32 → c'[j]? = c[j]?
/-- the parts of a script are laid onto the stack -/
theorem follows_ok {f : AV} {x : Nat} {c : List AV} (hf : ∀ i, f ≠ .yd i) (hc : c[31]? = some Ns) (hs : Script B0 W ro f x c) (H : Cx B0 W S (.obj x (.row c) :: own) ro) :
    wpC EM (.fn (.func 108) [] []) [.ptr x 0, f] S fun _ S' => ∃ c' s n, same3 c c' ∧ c'[31]? = some s ∧ 1 ≤ n ∧ (∀ S1, evalOp EM.P (.len false s) S1 = some (I (n : Nat), S1)) ∧ Cx B0 W S' (.obj x (.row c') :: own) ro := by
  refine wpC_fn (b := Tryz.a108) rfl rfl ?_
  unfold Tryz.a108 Tryz.a108x6 Tryz.a108x5 Tryz.a108x4 Tryz.a108x3 Tryz.a108x2 Tryz.a108x1 Tryz.a108x0
  refine wp_alloc H fun a S1 H => ?_
  have H : Cx B0 W S1 (.sl Ns 1 [] :: .obj a (.row [Ns]) :: .obj x (.row c) :: own) ro := H.addOwn (x := .sl Ns 1 []) (Grows.refl _) (.inl ⟨rfl, rfl⟩) (by simp [Own.ids, vids])
  refine wp_bind (wp_rng hf ?_)
  have H1 := H.addOwn (x := .obj S1.next (.loop .ready none 1 fun v2 => Tryz.a108x1 (.ptr a 0) v2)) (Grows.new S1 (.loop .ready none 1 fun v2 => Tryz.a108x1 (.ptr a 0) v2)) (get_new_same _ _) (fun j hj => by
    simp only [Own.ids, List.mem_singleton] at hj
    subst hj
    exact ⟨Nat.le_refl _, by simp⟩)
  have H1 := H1.permS (own' := .obj x (.row c) :: (own ++ [.obj S1.next (.loop .ready none 1 fun v2 => Tryz.a108x1 (.ptr a 0) v2), .sl Ns 1 [], .obj a (.row [Ns])])) ((List.perm_middle (l₁ := [_, _, _]) (l₂ := own)).trans (List.Perm.cons _ List.perm_append_comm))
  refine wpC_mono (hs S1.next (fun n o => ∃ s L, o = [.obj S1.next (.loop .ready none 1 fun v2 => Tryz.a108x1 (.ptr a 0) v2), .sl s 1 (vals L), .obj a (.row [s])] ∧ L.length = n ∧ ∀ e ∈ L, Fv e) ?_ own _ _ ⟨Ns, [], rfl, rfl, by simp⟩ H1) ?_
  · rintro n hn e E o S2 ro' hro he ⟨s, L, rfl, hL, hL2⟩ H
    have K := H.permS List.perm_append_comm
    refine wpC_mono (wpC_ydO (R := fun S' => ∃ own', Cx B0 W S' (E ++ own') ro' ∧ ∃ s L, own' = [.obj S1.next (.loop .ready none 1 fun v2 => Tryz.a108x1 (.ptr a 0) v2), .sl s 1 (vals L), .obj a (.row [s])] ∧ L.length = n + 1 ∧ ∀ e ∈ L, Fv e) K 0 rfl rfl ?_) fun v S' q => q
    unfold Tryz.a108x1 Tryz.a108x0
    refine wp_startO K 0 rfl fun S3 K => ?_
    refine wp_bind ?_
    refine wp_row (j := 0) K 2 rfl rfl ?_
    have hlen : (vals L).length = n := by rw [vals, List.length_map, hL]
    refine wp_push (L := vals L) K 1 rfl he.1 (by show e.cells.length = 1; rw [he.2]; rfl) rfl (by rw [hlen]; unfold maxBytes; omega) (by rw [hlen]; unfold maxLenN; omega) fun s1 S4 K => ?_
    have hs1 : Fv s1 := slOk_one (ownSl_ok (K.oh _ (List.Mem.tail _ (List.Mem.head _))))
    refine wp_set1 (j := 0) K 2 rfl (by simp) hs1 fun S5 K => ?_
    refine wp_ret ?_
    show wp EM _ _ _
    refine wp_ret ⟨rfl, _, _, K, rfl, fun S6 K => ⟨[.obj S1.next (.loop .ready none 1 fun v2 => Tryz.a108x1 (.ptr a 0) v2), .sl s1 1 (vals (L ++ [e])), .obj a (.row [s1])], ?_, s1, L ++ [e], rfl, by simp [hL], ?_⟩⟩
    · refine (?_ : Cx B0 W S6 ([_, _, _] ++ E) ro').permS List.perm_append_comm
      have e1 : vals (L ++ [e]) = vals L ++ [e.cells] := by rw [vals, List.map_append, he.2]; rfl
      rw [e1]
      exact K
    · intro y hy
      rcases List.mem_append.1 hy with h | h
      · exact hL2 y h
      · rw [List.mem_singleton.1 h]; exact he
  · rintro v S2 ⟨n, c', o, hn, hn16, hb, H, s, L, rfl, hL, hL2⟩
    have K := H.permS ((List.Perm.cons _ List.perm_append_comm).trans (List.perm_middle (l₁ := [_, _, _]) (l₂ := own)).symm)
    refine ⟨.ready, none, 1, _, K.oh _ (List.Mem.head _), by simp, ?_⟩
    have K := (K.setOb (n := 0) rfl (.loop .exhausted none 1 fun v2 => Tryz.a108x1 (.ptr a 0) v2)).dropAt 0
    generalize S2.set S1.next _ = S3 at K
    have K : Cx B0 W S3 (.sl s 1 (vals L) :: .obj a (.row [s]) :: .obj x (.row c') :: own) ro := K
    refine wp_ret ?_
    show wp EM _ _ _
    refine wp_row (j := 0) K 1 rfl rfl ?_
    refine wp_leno K 0 rfl ?_
    have hlen : (vals L).length = n := by rw [vals, List.length_map, hL]
    rw [hlen]
    refine wp_sub64 (by omega) (by omega) ?_
    have K := K.addOwn (x := .sl Ns 1 []) (Grows.refl _) (.inl ⟨rfl, rfl⟩) (by simp [Own.ids, vids])
    refine wp_bind (wp_loop (wpL_for n (fun i vs S => vs = [I ((n : Int) - 1 - i)] ∧ ∃ c2 t T, same3 c c2 ∧ c2[31]? = some t ∧ T.length = i ∧ Cx B0 W S (.sl t 1 T :: .sl s 1 (vals L) :: .obj a (.row [s]) :: .obj x (.row c2) :: own) ro) ?_ ?_ ⟨by simp, c', Ns, [], ⟨hb.1, fun j h31 h32 => hb.2 j h32⟩, by rw [hb.2 31 (by omega)]; exact hc, rfl, K⟩))
    · rintro i vs S4 hi ⟨rfl, c2, t, T, h3, h31, hT, H⟩
      have h32 : 31 < c2.length := (List.getElem?_eq_some_iff.1 h31).1
      have hk : n - 1 - i < L.length := by omega
      have hnum : (n : Int) - 1 - i = ((n - 1 - i : Nat) : Int) := by omega
      rw [hnum]
      refine wp_geq_t (by omega) ?_
      repeat (first|refine zA ?_|refine zB rfl ?_|refine zC ?_|refine zD ?_|refine zE rfl ?_|refine zF ?_|refine zG ?_|refine zH ?_|refine zI ?_|refine zJ ?_|refine zK ?_|refine zL rfl ?_|refine zN rfl ?_)
      refine wp_bind ?_
      repeat (first|refine zA ?_|refine zB rfl ?_|refine zC ?_|refine zD ?_|refine zE rfl ?_|refine zF ?_|refine zG ?_|refine zH ?_|refine zI ?_|refine zJ ?_|refine zK ?_|refine zL rfl ?_|refine zN rfl ?_)
      refine wp_row (j := 31) H 3 rfl h31 ?_
      refine wp_row (j := 0) H 2 rfl rfl ?_
      refine wp_saddro H 1 rfl (show (vals L)[n - 1 - i]? = some [L[n - 1 - i]] by rw [vals, List.getElem?_map, List.getElem?_eq_getElem hk]; rfl) fun id off hp => ?_
      have he : Fv L[n - 1 - i] := hL2 _ (List.getElem_mem hk)
      generalize L[n - 1 - i] = e at he hp
      refine wp_loadF0 hp ?_
      refine wp_push (L := T) H 0 rfl he.1 (by rw [he.2]; rfl) rfl (by unfold maxBytes; omega) (by unfold maxLenN; omega) fun t1 S5 H => ?_
      have ht1 : Fv t1 := slOk_one (ownSl_ok (H.oh _ (List.Mem.head _)))
      repeat (first|refine zA ?_|refine zB rfl ?_|refine zC ?_|refine zD ?_|refine zE rfl ?_|refine zF ?_|refine zG ?_|refine zH ?_|refine zI ?_|refine zJ ?_|refine zK ?_|refine zL rfl ?_|refine zN rfl ?_)
      refine wp_set1 (j := 31) H 3 rfl h32 ht1 fun S6 H => ?_
      refine wp_ret ?_
      show wp EM _ _ _
      refine wp_sub64 (by omega) (by omega) ?_
      refine wp_ret (.inl ⟨rfl, ?_, c2.set 31 t1, t1, T ++ [e.cells], ⟨by rw [List.length_set]; exact h3.1, fun j h1 h2 => by rw [List.getElem?_set, if_neg (fun e => h1 e.symm)]; exact h3.2 j h1 h2⟩, by rw [List.getElem?_set, if_pos rfl, if_pos h32], by simp [hT], H⟩)
      rw [show ((n - 1 - i : Nat) : Int) - 1 = (n : Int) - 1 - ((i + 1 : Nat) : Int) by omega]
    · rintro vs S4 ⟨rfl, c2, t, T, h3, h31, hT, H⟩
      refine wp_geq_f (by omega) ?_
      repeat (first|refine zA ?_|refine zB rfl ?_|refine zC ?_|refine zD ?_|refine zE rfl ?_|refine zF ?_|refine zG ?_|refine zH ?_|refine zI ?_|refine zJ ?_|refine zK ?_|refine zL rfl ?_|refine zN rfl ?_)
      refine wp_ret ⟨by simp, ?_⟩
      show wp EM _ _ _
      refine wp_ret ⟨rfl, c2, t, n, h3, h31, hn, fun S1 => ?_, ((H.dropAt 0).dropAt 0).dropAt 0⟩
      rw [← hT]
      exact slW_len (H.oh _ (List.Mem.head _)) S1
end
end Go.Abs
namespace Go.Abs
open Go.Proofs
set_option maxRecDepth 100000
set_option linter.unusedVariables false
open Tsk (Tk tks tchk tks_get)
theorem Ex.cs_beq {S : AH} {e : Ex} {v : AV} {L : List (List AV)} (h : slOk S v 4 L) : ∀ y ∈ e.cs v, AV.beq y y = true := by
  have hv : AV.beq v v = true := by
    rcases h with ⟨rfl, _⟩ | ⟨id, off, c, (⟨_, _, _, rfl⟩ | ⟨_, _, _, rfl⟩), _⟩
    · rfl
    · simp [AV.beq]
    · simp [AV.beq]
  intro y hy
  unfold Ex.cs at hy
  simp only [List.mem_cons, List.not_mem_nil, or_false] at hy
  repeat (rcases hy with rfl | hy; · first | exact beq_num | exact hv)
/-! ### operations, begun -/
def opRow (e : Ex) (v : AV) (kind c err : Int) : List AV := e.cs v ++ [I kind, I c, Ns, Ns, I 0, U 0, U 0, B false, U 0, I err]
def begE (e : Ex) (l : List Tk) (bad : Prop) [Decidable bad] : Int := if ¬ e.ok l then 2 else if bad then 3 else 0
section
variable {B0 S : AH} {W : List Nat} {own : List Own} {ro : List Fct} {Q : Post} {v : AV} {e : Ex} {l : List Tk}
theorem begun_ok {kind c : Int} {bad : Prop} [Decidable bad] (hv : Fct.sl v 4 (tks l) ∈ ro) (H : Cx B0 W S own ro) : wpC EM (.fn (.func 107) [] []) [.agg (e.cs v), I kind, I c, B (decide bad)] S fun r S' => ∃ x, r = .ptr x 0 ∧ Cx B0 W S' (.obj x (.row (opRow e Ns kind c (begE e l bad))) :: own) ro := by
  refine wpC_fn (b := Tryz.a107) rfl rfl ?_
  unfold Tryz.a107 Tryz.a107x3 Tryz.a107x2 Tryz.a107x1 Tryz.a107x0
  refine wp_box H rfl fun p S1 H => ?_
  refine wp_ldn H (by repeat (first | exact List.Mem.head _ | apply List.Mem.tail)) rfl ?_
  refine wp_op (v := .agg (opRow e v kind c 0)) rfl ?_
  refine wp_boxOwn H rfl fun x S2 H => ?_
  have H : Cx B0 W S2 (.obj x (.row (opRow e v kind c 0)) :: own) (.pt p 0 (e.cs v) :: ro) := H
  have fin : ∀ err S3, Cx B0 W S3 (.obj x (.row (opRow e v kind c err)) :: own) (.pt p 0 (e.cs v) :: ro) → err = begE e l bad → wp EM (Tryz.a107x3 (.ptr x 0)) S3 fun t vs S' => t = .ret ∧ ∃ x, oneOf vs = .ptr x 0 ∧ Cx B0 W S' (.obj x (.row (opRow e Ns kind c (begE e l bad))) :: own) ro := by
    intro err S3 H he
    unfold Tryz.a107x3
    repeat (first|refine zA ?_|refine zB rfl ?_|refine zC ?_|refine zD ?_|refine zE rfl ?_|refine zF ?_|refine zG ?_|refine zH ?_|refine zI ?_|refine zJ ?_|refine zK ?_|refine zL rfl ?_|refine zN rfl ?_)
    refine wp_set1 (j := 28) H 0 rfl (by simp [opRow, Ex.cs]) ⟨rfl, rfl⟩ fun S4 H => ?_
    refine wp_ret ⟨rfl, x, rfl, ?_⟩
    rw [← he]
    exact H.tl
  unfold Tryz.a107x3 at fin
  refine wp_bind ?_
  refine wp_ldn H (by repeat (first | exact List.Mem.head _ | apply List.Mem.tail)) rfl ?_
  refine wp_callV H (soundE_ok (e := e) (l := l) (v := v) (List.mem_cons_of_mem _ hv) H) fun S3 H => ?_
  refine wp_not ?_
  by_cases he : e.ok l
  · rw [decide_eq_true he]
    refine wp_bind ?_
    repeat (first|refine zA ?_|refine zB rfl ?_|refine zC ?_|refine zD ?_|refine zE rfl ?_|refine zF ?_|refine zG ?_|refine zH ?_|refine zI ?_|refine zJ ?_|refine zK ?_|refine zL rfl ?_|refine zN rfl ?_)
    refine wp_bind ?_
    by_cases hb : bad
    · rw [decide_eq_true hb]
      repeat (first|refine zA ?_|refine zB rfl ?_|refine zC ?_|refine zD ?_|refine zE rfl ?_|refine zF ?_|refine zG ?_|refine zH ?_|refine zI ?_|refine zJ ?_|refine zK ?_|refine zL rfl ?_|refine zN rfl ?_)
      refine wp_set1 (j := 38) H 0 rfl (by simp [opRow, Ex.cs]) ⟨rfl, rfl⟩ fun S4 H => ?_
      refine wp_ret ?_
      show wp EM _ _ _
      refine wp_ret ?_
      show wp EM _ _ _
      refine wp_ret ?_
      show wp EM _ _ _
      exact fin 3 _ H (by unfold begE; rw [if_neg (fun h => h he), if_pos hb])
    · rw [decide_eq_false hb]
      repeat (first|refine zA ?_|refine zB rfl ?_|refine zC ?_|refine zD ?_|refine zE rfl ?_|refine zF ?_|refine zG ?_|refine zH ?_|refine zI ?_|refine zJ ?_|refine zK ?_|refine zL rfl ?_|refine zN rfl ?_)
      refine wp_ret ?_
      show wp EM _ _ _
      refine wp_ret ?_
      show wp EM _ _ _
      refine wp_ret ?_
      show wp EM _ _ _
      exact fin 0 _ H (by unfold begE; rw [if_neg (fun h => h he), if_neg hb])
  · rw [decide_eq_false he]
    refine wp_bind ?_
    repeat (first|refine zA ?_|refine zB rfl ?_|refine zC ?_|refine zD ?_|refine zE rfl ?_|refine zF ?_|refine zG ?_|refine zH ?_|refine zI ?_|refine zJ ?_|refine zK ?_|refine zL rfl ?_|refine zN rfl ?_)
    refine wp_set1 (j := 38) H 0 rfl (by simp [opRow, Ex.cs]) ⟨rfl, rfl⟩ fun S4 H => ?_
    refine wp_ret ?_
    show wp EM _ _ _
    refine wp_ret ?_
    show wp EM _ _ _
    exact fin 2 _ H (by unfold begE; rw [if_pos he])
/-- what is asked of a core's operation -/
def badC (e : Ex) (c h : Int) : Prop := c < 0 ∨ e.rcores ≤ c ∨ h < 1 ∨ e.t.ht < h
instance (e : Ex) (c h : Int) : Decidable (badC e c h) := inferInstanceAs (Decidable (_ ∨ _))
theorem core_ok {kind c h : Int} (hv : Fct.sl v 4 (tks l) ∈ ro) (H : Cx B0 W S own ro) : wpC EM (.fn (.func 112) [] []) [.agg (e.cs v), I kind, I c, I h] S fun r S' => ∃ x, r = .ptr x 0 ∧ Cx B0 W S' (.obj x (.row (opRow e Ns kind c (begE e l (badC e c h)))) :: own) ro := by
  refine wpC_fn (b := Tryz.a112) rfl rfl ?_
  unfold Tryz.a112 Tryz.a112x2 Tryz.a112x1 Tryz.a112x0
  refine wp_box H rfl fun p S1 H => ?_
  refine wp_ldn H (by repeat (first | exact List.Mem.head _ | apply List.Mem.tail)) rfl ?_
  have fin : ∀ b : Bool, b = decide (badC e c h) → wp EM (.call (.fn (.func 107) [] []) [.agg (e.cs v), I kind, I c, B b] fun v19 => .ret .ret [v19]) S1 fun t vs S' => t = .ret ∧ ∃ x, oneOf vs = .ptr x 0 ∧ Cx B0 W S' (.obj x (.row (opRow e Ns kind c (begE e l (badC e c h)))) :: own) ro := by
    rintro b rfl
    refine wp_call (wpC_mono (begun_ok (bad := badC e c h) (e := e) (l := l) (v := v) (List.mem_cons_of_mem _ hv) H) fun r S2 q => ?_)
    obtain ⟨x, rfl, H⟩ := q
    exact wp_ret ⟨rfl, x, rfl, H.tl⟩
  unfold badC at fin
  repeat' (first | (first|refine zA ?_|refine zB rfl ?_|refine zC ?_|refine zD ?_|refine zE rfl ?_|refine zF ?_|refine zG ?_|refine zH ?_|refine zI ?_|refine zJ ?_|refine zK ?_|refine zL rfl ?_|refine zN rfl ?_) | refine wp_ld (by assumption) (by repeat (first | exact List.Mem.head _ | apply List.Mem.tail)) rfl ?_ | refine wp_lss (fun _ => ?_) (fun _ => ?_) | refine wp_gtr (fun _ => ?_) (fun _ => ?_) | refine wp_geq (fun _ => ?_) (fun _ => ?_))
  all_goals first
    | exact fin true (decide_eq_true (by omega)).symm
    | exact fin false (decide_eq_false (by omega)).symm
end
end Go.Abs
namespace Go.Abs
open Go.Proofs
set_option maxRecDepth 100000
set_option linter.unusedVariables false
open Tsk (Tk tks tchk tks_get tks_len)
/-- an operation of the program's, begun: of a kind, with an error -/
def pOp (c : List AV) (kind err : Int) : Prop := c.length = 39 ∧ c[29]? = some (I kind) ∧ c[37]? = some (U 0) ∧ c[38]? = some (I err) ∧ ((err ≠ 0 ∧ c[31]? = some Ns) ∨ (err = 0 ∧ ∃ s n, c[31]? = some s ∧ 1 ≤ n ∧ ∀ S1, evalOp EM.P (.len false s) S1 = some (I (n : Nat), S1)))
def badR (l : List Tk) (t now : Int) : Prop := t < 0 ∨ l.length ≤ t ∨ now < 0 ∨ 1099511627776 < now
instance (l : List Tk) (t now : Int) : Decidable (badR l t now) := inferInstanceAs (Decidable (_ ∨ _))
theorem begE_ok {e : Ex} {l : List Tk} {bad : Prop} [Decidable bad] (h : begE e l bad = 0) : e.ok l ∧ ¬ bad := by
  unfold begE at h
  split at h
  · omega
  · next h1 =>
    split at h
    · omega
    · next h2 => exact ⟨Decidable.of_not_not h1, h2⟩
section
variable {B0 S : AH} {W : List Nat} {own : List Own} {ro : List Fct} {Q : Post} {v : AV} {e : Ex} {l : List Tk}
theorem opRow_err {kind c err : Int} : (opRow e Ns kind c err)[38]? = some (I err) := rfl
/-- begun, and not followed -/
theorem pOp_bad {kind c err : Int} (h : err ≠ 0) : pOp (opRow e Ns kind c err) kind err := ⟨rfl, rfl, rfl, rfl, .inl ⟨h, rfl⟩⟩
theorem pOp_go {kind c : Int} {c' : List AV} {s : AV} {n : Nat} (h3 : same3 (opRow e Ns kind c 0) c') (hs : c'[31]? = some s) (hn : 1 ≤ n) (hl : ∀ S1, evalOp EM.P (.len false s) S1 = some (I (n : Nat), S1)) : pOp c' kind 0 :=
  ⟨h3.1, by rw [h3.2 29 (by omega) (by omega)]; rfl, by rw [h3.2 37 (by omega) (by omega)]; rfl, by rw [h3.2 38 (by omega) (by omega)]; rfl, .inr ⟨rfl, s, n, hs, hn, hl⟩⟩
theorem newPick_ok {c : Int} (hv : Fct.sl v 4 (tks l) ∈ ro) (H : Cx B0 W S own ro) : wpC EM (.fn (.func 54) [] []) [.agg (e.cs v), I c] S fun r S' => ∃ x c', r = .ptr x 0 ∧ pOp c' 3 (begE e l (badC e c 1)) ∧ Cx B0 W S' (.obj x (.row c') :: own) ro := by
  refine wpC_fn (b := Tryz.a54) rfl rfl ?_
  unfold Tryz.a54 Tryz.a54x1 Tryz.a54x0
  refine wp_box H rfl fun p S1 H => ?_
  refine wp_ldn H (by repeat (first | exact List.Mem.head _ | apply List.Mem.tail)) rfl ?_
  refine wp_call (wpC_mono (core_ok (e := e) (l := l) (v := v) (List.mem_cons_of_mem _ hv) H) fun r S2 q => ?_)
  obtain ⟨x, rfl, H⟩ := q
  repeat (first|refine zA ?_|refine zB rfl ?_|refine zC ?_|refine zD ?_|refine zE rfl ?_|refine zF ?_|refine zG ?_|refine zH ?_|refine zI ?_|refine zJ ?_|refine zK ?_|refine zL rfl ?_|refine zN rfl ?_)
  refine wp_row (j := 38) H 0 rfl rfl ?_
  by_cases h0 : begE e l (badC e c 1) = 0
  · rw [h0] at H ⊢
    refine wp_eql_t rfl ?_
    refine wp_bind ?_
    repeat (first|refine zA ?_|refine zB rfl ?_|refine zC ?_|refine zD ?_|refine zE rfl ?_|refine zF ?_|refine zG ?_|refine zH ?_|refine zI ?_|refine zJ ?_|refine zK ?_|refine zL rfl ?_|refine zN rfl ?_)
    refine wp_call (wpC_fn (b := Tryz.a117) rfl rfl ?_)
    unfold Tryz.a117
    refine wp_box H rfl fun b1 S3 H => ?_
    refine wp_ret ⟨rfl, ?_⟩
    show wp EM _ _ _
    refine wp_call (wpC_mono (follows_ok (by intro i h; cases h) rfl (script_pick (by repeat (first | exact List.Mem.head _ | apply List.Mem.tail))) H) fun r S4 q => ?_)
    obtain ⟨c', s, n, h3, hs, hn, hl, H⟩ := q
    refine wp_ret ?_
    show wp EM _ _ _
    exact wp_ret ⟨rfl, x, c', rfl, pOp_go h3 hs hn hl, H.tl.tl⟩
  · refine wp_eql_f h0 ?_
    refine wp_bind ?_
    repeat (first|refine zA ?_|refine zB rfl ?_|refine zC ?_|refine zD ?_|refine zE rfl ?_|refine zF ?_|refine zG ?_|refine zH ?_|refine zI ?_|refine zJ ?_|refine zK ?_|refine zL rfl ?_|refine zN rfl ?_)
    refine wp_ret ?_
    show wp EM _ _ _
    exact wp_ret ⟨rfl, x, _, rfl, pOp_bad h0, H.tl⟩
theorem cores_bd (h : e.ok l) {c hh : Int} (hb : ¬ badC e c hh) : mailQ e.mfirst e.mcores e.mroom ∧ 0 ≤ c ∧ c < e.mcores ∧ c < 64 ∧ (0 ≤ e.own ∧ e.own < 4096) ∧ (0 ≤ e.rruns ∧ e.rruns < 4096) ∧ (0 ≤ e.rflags ∧ e.rflags < 4096) := by
  unfold Ex.ok cellP at h
  unfold badC at hb
  unfold mailQ mailP
  omega
theorem newComplete_ok {c : Int} (hv : Fct.sl v 4 (tks l) ∈ ro) (H : Cx B0 W S own ro) : wpC EM (.fn (.func 58) [] []) [.agg (e.cs v), I c] S fun r S' => ∃ x c', r = .ptr x 0 ∧ pOp c' 5 (begE e l (badC e c 1)) ∧ Cx B0 W S' (.obj x (.row c') :: own) ro := by
  refine wpC_fn (b := Tryz.a58) rfl rfl ?_
  unfold Tryz.a58 Tryz.a58x1 Tryz.a58x0
  refine wp_box H rfl fun p S1 H => ?_
  refine wp_ldn H (by repeat (first | exact List.Mem.head _ | apply List.Mem.tail)) rfl ?_
  refine wp_call (wpC_mono (core_ok (e := e) (l := l) (v := v) (List.mem_cons_of_mem _ hv) H) fun r S2 q => ?_)
  obtain ⟨x, rfl, H⟩ := q
  repeat (first|refine zA ?_|refine zB rfl ?_|refine zC ?_|refine zD ?_|refine zE rfl ?_|refine zF ?_|refine zG ?_|refine zH ?_|refine zI ?_|refine zJ ?_|refine zK ?_|refine zL rfl ?_|refine zN rfl ?_)
  refine wp_row (j := 38) H 0 rfl rfl ?_
  by_cases h0 : begE e l (badC e c 1) = 0
  · obtain ⟨ho, hb⟩ := begE_ok h0
    obtain ⟨b1, b2, b3, b4, b5, b6, b7⟩ := cores_bd ho hb
    rw [h0] at H ⊢
    refine wp_eql_t rfl ?_
    refine wp_bind ?_
    repeat (first|refine zA ?_|refine zB rfl ?_|refine zC ?_|refine zD ?_|refine zE rfl ?_|refine zF ?_|refine zG ?_|refine zH ?_|refine zI ?_|refine zJ ?_|refine zK ?_|refine zL rfl ?_|refine zN rfl ?_)
    refine wp_call (wpC_fn (b := Tryz.a119) rfl rfl ?_)
    unfold Tryz.a119
    refine wp_box H rfl fun b1 S3 H => ?_
    refine wp_ret ⟨rfl, ?_⟩
    show wp EM _ _ _
    refine wp_call (wpC_mono (follows_ok (by intro i h; cases h) rfl (script_complete (o := e.own) (cc := c) (rr := e.rruns) rfl rfl rfl b5 b6 ⟨b2, b4⟩ (by repeat (first | exact List.Mem.head _ | apply List.Mem.tail))) H) fun r S4 q => ?_)
    obtain ⟨c', s, n, h3, hs, hn, hl, H⟩ := q
    refine wp_ret ?_
    show wp EM _ _ _
    exact wp_ret ⟨rfl, x, c', rfl, pOp_go h3 hs hn hl, H.tl.tl⟩
  · refine wp_eql_f h0 ?_
    refine wp_bind ?_
    repeat (first|refine zA ?_|refine zB rfl ?_|refine zC ?_|refine zD ?_|refine zE rfl ?_|refine zF ?_|refine zG ?_|refine zH ?_|refine zI ?_|refine zJ ?_|refine zK ?_|refine zL rfl ?_|refine zN rfl ?_)
    refine wp_ret ?_
    show wp EM _ _ _
    exact wp_ret ⟨rfl, x, _, rfl, pOp_bad h0, H.tl⟩
theorem newServe_ok {c h : Int} (hv : Fct.sl v 4 (tks l) ∈ ro) (H : Cx B0 W S own ro) : wpC EM (.fn (.func 56) [] []) [.agg (e.cs v), I c, I h] S fun r S' => ∃ x c', r = .ptr x 0 ∧ pOp c' 4 (begE e l (badC e c h)) ∧ Cx B0 W S' (.obj x (.row c') :: own) ro := by
  refine wpC_fn (b := Tryz.a56) rfl rfl ?_
  unfold Tryz.a56 Tryz.a56x1 Tryz.a56x0
  refine wp_box H rfl fun p S1 H => ?_
  refine wp_ldn H (by repeat (first | exact List.Mem.head _ | apply List.Mem.tail)) rfl ?_
  refine wp_call (wpC_mono (core_ok (e := e) (l := l) (v := v) (List.mem_cons_of_mem _ hv) H) fun r S2 q => ?_)
  obtain ⟨x, rfl, H⟩ := q
  repeat (first|refine zA ?_|refine zB rfl ?_|refine zC ?_|refine zD ?_|refine zE rfl ?_|refine zF ?_|refine zG ?_|refine zH ?_|refine zI ?_|refine zJ ?_|refine zK ?_|refine zL rfl ?_|refine zN rfl ?_)
  refine wp_row (j := 38) H 0 rfl rfl ?_
  by_cases h0 : begE e l (badC e c h) = 0
  · obtain ⟨ho, hb⟩ := begE_ok h0
    obtain ⟨b1, b2, b3, b4, b5, b6, b7⟩ := cores_bd ho hb
    rw [h0] at H ⊢
    refine wp_eql_t rfl ?_
    refine wp_bind ?_
    repeat (first|refine zA ?_|refine zB rfl ?_|refine zC ?_|refine zD ?_|refine zE rfl ?_|refine zF ?_|refine zG ?_|refine zH ?_|refine zI ?_|refine zJ ?_|refine zK ?_|refine zL rfl ?_|refine zN rfl ?_)
    refine wp_call (wpC_fn (b := Tryz.a118) rfl rfl ?_)
    unfold Tryz.a118 Tryz.a118x1 Tryz.a118x0
    refine wp_box H rfl fun b1 S3 H => ?_
    refine wp_box H rfl fun b2 S3 H => ?_
    refine wp_ld H (by repeat (first | exact List.Mem.head _ | apply List.Mem.tail)) rfl ?_
    repeat (first|refine zA ?_|refine zB rfl ?_|refine zC ?_|refine zD ?_|refine zE rfl ?_|refine zF ?_|refine zG ?_|refine zH ?_|refine zI ?_|refine zJ ?_|refine zK ?_|refine zL rfl ?_|refine zN rfl ?_)
    refine wp_row (j := 24) H 0 rfl rfl ?_
    refine wp_ld H (by repeat (first | exact List.Mem.head _ | apply List.Mem.tail)) rfl ?_
    repeat (first|refine zA ?_|refine zB rfl ?_|refine zC ?_|refine zD ?_|refine zE rfl ?_|refine zF ?_|refine zG ?_|refine zH ?_|refine zI ?_|refine zJ ?_|refine zK ?_|refine zL rfl ?_|refine zN rfl ?_)
    refine wp_row (j := 30) H 0 rfl rfl ?_
    refine wp_add64 (by omega) (by omega) ?_
    refine wp_alloc H fun b3 S4 H => ?_
    refine wp_set1 (j := 0) H 0 rfl (by simp) ⟨rfl, rfl⟩ fun S5 H => ?_
    have H := H.freeze (i := 0) rfl
    have H : Cx B0 W S5 (.obj x (.row (opRow e Ns 4 c 0)) :: own) (.pt b3 0 [I (e.rflags + c)] :: .pt b2 0 [I h] :: .pt b1 0 [.ptr x 0] :: .pt p 0 (e.cs v) :: ro) := H
    refine wp_ret ⟨rfl, ?_⟩
    show wp EM _ _ _
    refine wp_call (wpC_mono (follows_ok (by intro i h; cases h) rfl (script_serve (by repeat (first | exact List.Mem.head _ | apply List.Mem.tail)) (by repeat (first | exact List.Mem.head _ | apply List.Mem.tail))) H) fun r S4 q => ?_)
    obtain ⟨c', s, n, h3, hs, hn, hl, H⟩ := q
    refine wp_ret ?_
    show wp EM _ _ _
    exact wp_ret ⟨rfl, x, c', rfl, pOp_go h3 hs hn hl, H.tl.tl.tl.tl⟩
  · refine wp_eql_f h0 ?_
    refine wp_bind ?_
    repeat (first|refine zA ?_|refine zB rfl ?_|refine zC ?_|refine zD ?_|refine zE rfl ?_|refine zF ?_|refine zG ?_|refine zH ?_|refine zI ?_|refine zJ ?_|refine zK ?_|refine zL rfl ?_|refine zN rfl ?_)
    refine wp_ret ?_
    show wp EM _ _ _
    exact wp_ret ⟨rfl, x, _, rfl, pOp_bad h0, H.tl⟩
theorem newTake_ok {c h : Int} (hv : Fct.sl v 4 (tks l) ∈ ro) (H : Cx B0 W S own ro) : wpC EM (.fn (.func 52) [] []) [.agg (e.cs v), I c, I h] S fun r S' => ∃ x c', r = .ptr x 0 ∧ pOp c' 2 (begE e l (badC e c h)) ∧ Cx B0 W S' (.obj x (.row c') :: own) ro := by
  refine wpC_fn (b := Tryz.a52) rfl rfl ?_
  unfold Tryz.a52 Tryz.a52x1 Tryz.a52x0
  refine wp_box H rfl fun p S1 H => ?_
  refine wp_ldn H (by repeat (first | exact List.Mem.head _ | apply List.Mem.tail)) rfl ?_
  refine wp_call (wpC_mono (core_ok (e := e) (l := l) (v := v) (List.mem_cons_of_mem _ hv) H) fun r S2 q => ?_)
  obtain ⟨x, rfl, H⟩ := q
  repeat (first|refine zA ?_|refine zB rfl ?_|refine zC ?_|refine zD ?_|refine zE rfl ?_|refine zF ?_|refine zG ?_|refine zH ?_|refine zI ?_|refine zJ ?_|refine zK ?_|refine zL rfl ?_|refine zN rfl ?_)
  refine wp_row (j := 38) H 0 rfl rfl ?_
  by_cases h0 : begE e l (badC e c h) = 0
  · obtain ⟨ho, hb⟩ := begE_ok h0
    obtain ⟨b1, b2, b3, b4, b5, b6, b7⟩ := cores_bd ho hb
    rw [h0] at H ⊢
    refine wp_eql_t rfl ?_
    refine wp_bind ?_
    repeat (first|refine zA ?_|refine zB rfl ?_|refine zC ?_|refine zD ?_|refine zE rfl ?_|refine zF ?_|refine zG ?_|refine zH ?_|refine zI ?_|refine zJ ?_|refine zK ?_|refine zL rfl ?_|refine zN rfl ?_)
    refine wp_call (wpC_fn (b := Tryz.a113) rfl rfl ?_)
    unfold Tryz.a113 Tryz.a113x1 Tryz.a113x0
    refine wp_box H rfl fun b1 S3 H => ?_
    refine wp_box H rfl fun b2 S3 H => ?_
    refine wp_ld H (by repeat (first | exact List.Mem.head _ | apply List.Mem.tail)) rfl ?_
    repeat (first|refine zA ?_|refine zB rfl ?_|refine zC ?_|refine zD ?_|refine zE rfl ?_|refine zF ?_|refine zG ?_|refine zH ?_|refine zI ?_|refine zJ ?_|refine zK ?_|refine zL rfl ?_|refine zN rfl ?_)
    refine wp_loadoa (off := 20) (n := 3) H 0 rfl (by simp [opRow, Ex.cs]) ?_
    refine wp_ld H (by repeat (first | exact List.Mem.head _ | apply List.Mem.tail)) rfl ?_
    repeat (first|refine zA ?_|refine zB rfl ?_|refine zC ?_|refine zD ?_|refine zE rfl ?_|refine zF ?_|refine zG ?_|refine zH ?_|refine zI ?_|refine zJ ?_|refine zK ?_|refine zL rfl ?_|refine zN rfl ?_)
    refine wp_row (j := 30) H 0 rfl rfl ?_
    refine wp_alloc H fun b3 S4 H => ?_
    refine wp_callV H (boxM_ok (a := e.mfirst) (n := e.mcores) (r := e.mroom) (c := c) ‹_› ‹_› ‹_›) fun S5 H => ?_
    repeat (first|refine zA ?_|refine zB rfl ?_|refine zC ?_|refine zD ?_|refine zE rfl ?_|refine zF ?_|refine zG ?_|refine zH ?_|refine zI ?_|refine zJ ?_|refine zK ?_|refine zL rfl ?_|refine zN rfl ?_)
    refine wp_store (n := 4) H 0 (c := [I 0, I 0, I 0, I 0]) rfl rfl rfl (by simp) fun S6 H => ?_
    have H := H.freeze (i := 0) rfl
    have H : Cx B0 W S6 (.obj x (.row (opRow e Ns 2 c 0)) :: own) (.pt b3 0 (ringCs e.mfirst e.mroom c) :: .pt b2 0 [I h] :: .pt b1 0 [.ptr x 0] :: .pt p 0 (e.cs v) :: ro) := H
    refine wp_ret ⟨rfl, ?_⟩
    show wp EM _ _ _
    refine wp_call (wpC_mono (follows_ok (by intro i h; cases h) rfl (script_take (by simp [opRow, Ex.cs]) (by repeat (first | exact List.Mem.head _ | apply List.Mem.tail)) (List.Mem.head _) (by repeat (first | exact List.Mem.head _ | apply List.Mem.tail))) H) fun r S4 q => ?_)
    obtain ⟨c', s, n, h3, hs, hn, hl, H⟩ := q
    refine wp_ret ?_
    show wp EM _ _ _
    exact wp_ret ⟨rfl, x, c', rfl, pOp_go h3 hs hn hl, H.tl.tl.tl.tl⟩
  · refine wp_eql_f h0 ?_
    refine wp_bind ?_
    repeat (first|refine zA ?_|refine zB rfl ?_|refine zC ?_|refine zD ?_|refine zE rfl ?_|refine zF ?_|refine zG ?_|refine zH ?_|refine zI ?_|refine zJ ?_|refine zK ?_|refine zL rfl ?_|refine zN rfl ?_)
    refine wp_ret ?_
    show wp EM _ _ _
    exact wp_ret ⟨rfl, x, _, rfl, pOp_bad h0, H.tl⟩
theorem newRelease_ok {t now : Int} (hv : Fct.sl v 4 (tks l) ∈ ro) (H : Cx B0 W S own ro) : wpC EM (.fn (.func 50) [] []) [.agg (e.cs v), I t, I now] S fun r S' => ∃ x c', r = .ptr x 0 ∧ pOp c' 1 (begE e l (badR l t now)) ∧ Cx B0 W S' (.obj x (.row c') :: own) ro := by
  refine wpC_fn (b := Tryz.a50) rfl rfl ?_
  unfold Tryz.a50 Tryz.a50x3 Tryz.a50x2 Tryz.a50x1 Tryz.a50x0
  refine wp_box H rfl fun p S1 H => ?_
  refine wp_ldn H (by repeat (first | exact List.Mem.head _ | apply List.Mem.tail)) rfl ?_
  have fin : ∀ b : Bool, b = decide (badR l t now) → wp EM (.call (.fn (.func 107) [] []) [.agg (e.cs v), I 1, I 0, B b] fun v16 => .op (.nilchk v16) fun v17 => .op (.faddr 38 v17) fun v18 => Tryz.a50x1 [.agg (e.cs v), I t, I now] (.ptr p 0) v16 v18) S1 fun tg vs S' => tg = .ret ∧ ∃ x c', oneOf vs = .ptr x 0 ∧ pOp c' 1 (begE e l (badR l t now)) ∧ Cx B0 W S' (.obj x (.row c') :: own) ro := by
    rintro b rfl
    refine wp_call (wpC_mono (begun_ok (bad := badR l t now) (e := e) (l := l) (v := v) (List.mem_cons_of_mem _ hv) H) fun r S2 q => ?_)
    obtain ⟨x, rfl, H⟩ := q
    unfold Tryz.a50x1 Tryz.a50x0
    repeat (first|refine zA ?_|refine zB rfl ?_|refine zC ?_|refine zD ?_|refine zE rfl ?_|refine zF ?_|refine zG ?_|refine zH ?_|refine zI ?_|refine zJ ?_|refine zK ?_|refine zL rfl ?_|refine zN rfl ?_)
    refine wp_row (j := 38) H 0 rfl rfl ?_
    by_cases h0 : begE e l (badR l t now) = 0
    · obtain ⟨ho, hb⟩ := begE_ok h0
      unfold badR at hb
      obtain ⟨tn, rfl⟩ : ∃ k : Nat, t = (k : Int) := ⟨t.toNat, by omega⟩
      have htn : tn < l.length := by omega
      rw [h0] at H ⊢
      refine wp_eql_t rfl ?_
      refine wp_bind ?_
      repeat (first|refine zA ?_|refine zB rfl ?_|refine zC ?_|refine zD ?_|refine zE rfl ?_|refine zF ?_|refine zG ?_|refine zH ?_|refine zI ?_|refine zJ ?_|refine zK ?_|refine zL rfl ?_|refine zN rfl ?_)
      refine wp_ld H (show Fct.pt p 0 (e.cs v) ∈ _ by repeat (first | exact List.Mem.head _ | apply List.Mem.tail)) rfl ?_
      refine wp_saddr (v := v) (i := tn) (L := tks l) H (List.mem_cons_of_mem _ hv) (tks_get htn) fun p1 o1 H => ?_
      refine wp_loada (n := 4) H (by repeat (first | exact List.Mem.head _ | apply List.Mem.tail)) (by simp [Tk.cs]) ?_
      refine wp_call (wpC_fn (b := Tryz.a109) rfl rfl ?_)
      unfold Tryz.a109
      refine wp_box H rfl fun b1 S3 H => ?_
      refine wp_box H rfl fun b2 S3 H => ?_
      refine wp_box H rfl fun b3 S3 H => ?_
      refine wp_box H rfl fun b4 S3 H => ?_
      refine wp_ret ⟨rfl, ?_⟩
      show wp EM _ _ _
      refine wp_call (wpC_mono (follows_ok (by intro i h; cases h) rfl (script_release (by repeat (first | exact List.Mem.head _ | apply List.Mem.tail))) H) fun r S4 q => ?_)
      obtain ⟨c', s, n, h3, hs, hn, hl, H⟩ := q
      refine wp_ret ?_
      show wp EM _ _ _
      exact wp_ret ⟨rfl, x, c', rfl, pOp_go h3 hs hn hl, H.tl.tl.tl.tl.tl.tl⟩
    · refine wp_eql_f h0 ?_
      refine wp_bind ?_
      repeat (first|refine zA ?_|refine zB rfl ?_|refine zC ?_|refine zD ?_|refine zE rfl ?_|refine zF ?_|refine zG ?_|refine zH ?_|refine zI ?_|refine zJ ?_|refine zK ?_|refine zL rfl ?_|refine zN rfl ?_)
      refine wp_ret ?_
      show wp EM _ _ _
      exact wp_ret ⟨rfl, x, _, rfl, pOp_bad h0, H.tl⟩
  unfold badR at fin
  have hlen : (tks l).length = l.length := tks_len l
  repeat' (first | (first|refine zA ?_|refine zB rfl ?_|refine zC ?_|refine zD ?_|refine zE rfl ?_|refine zF ?_|refine zG ?_|refine zH ?_|refine zI ?_|refine zJ ?_|refine zK ?_|refine zL rfl ?_|refine zN rfl ?_) | refine wp_ld H (show Fct.pt p 0 (e.cs v) ∈ _ by repeat (first | exact List.Mem.head _ | apply List.Mem.tail)) rfl ?_ | refine wp_len H (List.mem_cons_of_mem _ hv) ?_ | refine wp_lss (fun _ => ?_) (fun _ => ?_) | refine wp_gtr (fun _ => ?_) (fun _ => ?_) | refine wp_geq (fun _ => ?_) (fun _ => ?_))
  all_goals first
    | exact fin true (decide_eq_true (by omega)).symm
    | exact fin false (decide_eq_false (by omega)).symm
end
end Go.Abs
namespace Go.Abs
open Go.Proofs
set_option maxRecDepth 100000
set_option linter.unusedVariables false
open Tsk (Tk tks tchk tks_get tks_len)
/-! ### the document's operations, begun -/
def dRow (e : Ex) (v : AV) (kind c t now high line : Int) (ps fr : AV) (err : Int) : List AV := e.cs v ++ [I kind, I c, I t, I now, I high, I line, ps, Np, Np, Np, Np, Np, Np, fr, Np, Np, Np, Np, I 0, U 0, U 0, I err, B false]
def dOp (c : List AV) (kind err : Int) : Prop := c.length = 52 ∧ c[29]? = some (I kind) ∧ c[49]? = some (U 0) ∧ c[50]? = some (I err) ∧ c[51]? = some (B false) ∧ ∃ line, c[34]? = some (I line) ∧ (line = 99 ↔ err ≠ 0)
section
variable {B0 S : AH} {W : List Nat} {own : List Own} {ro : List Fct} {Q : Post} {v : AV} {e : Ex} {l : List Tk}
theorem dOp_row {kind c t now high line : Int} {ps fr : AV} {err : Int} (h : line = 99 ↔ err ≠ 0) : dOp (dRow e v kind c t now high line ps fr err) kind err := ⟨rfl, rfl, rfl, rfl, rfl, line, rfl, h⟩
theorem dends_ok {x : Nat} {kind c t now high line err : Int} {ps fr : AV} {err' : Int} (H : Cx B0 W S (.obj x (.row (dRow e v kind c t now high line ps fr err)) :: own) ro) :
    wpC EM (.fn (.func 110) [] []) [.ptr x 0, I err'] S fun r S' => Cx B0 W S' (.obj x (.row (dRow e v kind c t now high 99 ps fr err')) :: own) ro := by
  refine wpC_fn (b := Tryz.a110) rfl rfl ?_
  unfold Tryz.a110
  repeat (first|refine zA ?_|refine zB rfl ?_|refine zC ?_|refine zD ?_|refine zE rfl ?_|refine zF ?_|refine zG ?_|refine zH ?_|refine zI ?_|refine zJ ?_|refine zK ?_|refine zL rfl ?_|refine zN rfl ?_)
  refine wp_set1 (j := 34) H 0 rfl (by simp [dRow, Ex.cs]) ⟨rfl, rfl⟩ fun S1 H => ?_
  repeat (first|refine zA ?_|refine zB rfl ?_|refine zC ?_|refine zD ?_|refine zE rfl ?_|refine zF ?_|refine zG ?_|refine zH ?_|refine zI ?_|refine zJ ?_|refine zK ?_|refine zL rfl ?_|refine zN rfl ?_)
  refine wp_set1 (j := 50) H 0 rfl (by simp [dRow, Ex.cs]) ⟨rfl, rfl⟩ fun S2 H => ?_
  exact wp_ret ⟨rfl, H⟩
def lineOf (err line : Int) : Int := if err = 0 then line else 99
theorem ofCore_ok {kind c h line : Int} (hv : Fct.sl v 4 (tks l) ∈ ro) (H : Cx B0 W S own ro) :
    wpC EM (.fn (.func 114) [] []) [.agg (e.cs v), I kind, I c, I h, I line] S fun r S' => ∃ x, r = .ptr x 0 ∧ Cx B0 W S' (.obj x (.row (dRow e v kind c 0 0 h (lineOf (begE e l (badC e c h)) line) Np Np (begE e l (badC e c h)))) :: own) ro := by
  refine wpC_fn (b := Tryz.a114) rfl rfl ?_
  unfold Tryz.a114 Tryz.a114x4 Tryz.a114x3 Tryz.a114x2 Tryz.a114x1 Tryz.a114x0
  refine wp_box H rfl fun p S1 H => ?_
  refine wp_ldn H (by repeat (first | exact List.Mem.head _ | apply List.Mem.tail)) rfl ?_
  refine wp_op (v := .agg (dRow e v kind c 0 0 h line Np Np 0)) rfl ?_
  refine wp_boxOwn H rfl fun x S2 H => ?_
  have H : Cx B0 W S2 (.obj x (.row (dRow e v kind c 0 0 h line Np Np 0)) :: own) (.pt p 0 (e.cs v) :: ro) := H
  refine wp_bind ?_
  refine wp_ldn H (by repeat (first | exact List.Mem.head _ | apply List.Mem.tail)) rfl ?_
  refine wp_callV H (rsoundE_ok (e := e) (l := l) (v := v) (List.mem_cons_of_mem _ hv) H) fun S3 H => ?_
  refine wp_not ?_
  by_cases he : e.ok l
  · rw [decide_eq_true he]
    refine wp_bind ?_
    repeat (first|refine zA ?_|refine zB rfl ?_|refine zC ?_|refine zD ?_|refine zE rfl ?_|refine zF ?_|refine zG ?_|refine zH ?_|refine zI ?_|refine zJ ?_|refine zK ?_|refine zL rfl ?_|refine zN rfl ?_)
    have hmr : e.mcores = e.rcores := by unfold Ex.ok at he; omega
    have fin : ∀ b : Bool, b = decide (badC e c h) → wp EM (Tryz.a114x0 (.ptr x 0) (B b)) S3 (boundTo EM none (fun v8 => .ret .normal []) (fun v8 => []) (boundTo EM (some 0) (fun v5 => .ret .ret [.ptr x 0]) (fun v5 => [Np]) fun t vs S' => t = .ret ∧ ∃ x, oneOf vs = .ptr x 0 ∧ Cx B0 W S' (.obj x (.row (dRow e v kind c 0 0 h (lineOf (begE e l (badC e c h)) line) Np Np (begE e l (badC e c h)))) :: own) ro)) := by
      rintro b rfl
      unfold Tryz.a114x0
      refine wp_bind ?_
      by_cases hb : badC e c h
      · rw [decide_eq_true hb]
        repeat (first|refine zA ?_|refine zB rfl ?_|refine zC ?_|refine zD ?_|refine zE rfl ?_|refine zF ?_|refine zG ?_|refine zH ?_|refine zI ?_|refine zJ ?_|refine zK ?_|refine zL rfl ?_|refine zN rfl ?_)
        have hE : begE e l (badC e c h) = 3 := by unfold begE; rw [if_neg (fun q => q he), if_pos hb]
        rw [hE]
        refine wp_call (wpC_mono (dends_ok H) fun r S4 H => ?_)
        refine wp_ret ?_
        show wp EM _ _ _
        refine wp_ret ?_
        show wp EM _ _ _
        refine wp_ret ?_
        show wp EM _ _ _
        exact wp_ret ⟨rfl, x, rfl, H.tl⟩
      · rw [decide_eq_false hb]
        repeat (first|refine zA ?_|refine zB rfl ?_|refine zC ?_|refine zD ?_|refine zE rfl ?_|refine zF ?_|refine zG ?_|refine zH ?_|refine zI ?_|refine zJ ?_|refine zK ?_|refine zL rfl ?_|refine zN rfl ?_)
        have hE : begE e l (badC e c h) = 0 := by unfold begE; rw [if_neg (fun q => q he), if_neg hb]
        rw [hE]
        refine wp_ret ?_
        show wp EM _ _ _
        refine wp_ret ?_
        show wp EM _ _ _
        refine wp_ret ?_
        show wp EM _ _ _
        exact wp_ret ⟨rfl, x, rfl, H.tl⟩
    unfold Tryz.a114x0 at fin
    repeat' (first | (first|refine zA ?_|refine zB rfl ?_|refine zC ?_|refine zD ?_|refine zE rfl ?_|refine zF ?_|refine zG ?_|refine zH ?_|refine zI ?_|refine zJ ?_|refine zK ?_|refine zL rfl ?_|refine zN rfl ?_) | refine wp_ld H (show Fct.pt p 0 (e.cs v) ∈ _ by repeat (first | exact List.Mem.head _ | apply List.Mem.tail)) rfl ?_ | refine wp_lss (fun _ => ?_) (fun _ => ?_) | refine wp_gtr (fun _ => ?_) (fun _ => ?_) | refine wp_geq (fun _ => ?_) (fun _ => ?_))
    all_goals first
      | exact fin true (decide_eq_true (p := badC e c h) (by unfold badC; omega)).symm
      | exact fin false (decide_eq_false (p := badC e c h) (by unfold badC; omega)).symm
  · rw [decide_eq_false he]
    have hE : begE e l (badC e c h) = 2 := by unfold begE; rw [if_pos he]
    rw [hE]
    refine wp_bind ?_
    repeat (first|refine zA ?_|refine zB rfl ?_|refine zC ?_|refine zD ?_|refine zE rfl ?_|refine zF ?_|refine zG ?_|refine zH ?_|refine zI ?_|refine zJ ?_|refine zK ?_|refine zL rfl ?_|refine zN rfl ?_)
    refine wp_call (wpC_mono (dends_ok H) fun r S4 H => ?_)
    refine wp_ret ?_
    show wp EM _ _ _
    refine wp_ret ?_
    show wp EM _ _ _
    exact wp_ret ⟨rfl, x, rfl, H.tl⟩
theorem rsize_ok {n : Int} : wpC EM (.fn (.func 196) [] []) [I n] S fun r S' => r = B (decide (1 ≤ n ∧ n ≤ 4096)) ∧ Grows S S' := by
  refine wpC_fn (b := Tryz.a196) rfl rfl ?_
  have H : Cx S [] S [] [] := Cx.enter (by simp)
  unfold Tryz.a196
  repeat' (first | (first|refine zA ?_|refine zB rfl ?_|refine zC ?_|refine zD ?_|refine zE rfl ?_|refine zF ?_|refine zG ?_|refine zH ?_|refine zI ?_|refine zJ ?_|refine zK ?_|refine zL rfl ?_|refine zN rfl ?_) | refine wp_bind ?_ | refine wp_box (by assumption) rfl fun _ _ _ => ?_ | refine wp_tmpN (by assumption) rfl rfl rfl fun _ _ _ => ?_ | refine wp_ld (by assumption) (by repeat (first | exact List.Mem.head _ | apply List.Mem.tail)) rfl ?_ | refine wp_ldn (by assumption) (by repeat (first | exact List.Mem.head _ | apply List.Mem.tail)) rfl ?_ | refine wp_notT ?_ | refine wp_notF ?_ | (refine wp_ret ?_; show wp EM _ _ _) | refine wp_lss (fun _ => ?_) (fun _ => ?_) | refine wp_gtr (fun _ => ?_) (fun _ => ?_) | refine wp_leq (fun _ => ?_) (fun _ => ?_) | refine wp_geq (fun _ => ?_) (fun _ => ?_) | refine wp_eql (fun _ => ?_) (fun _ => ?_) | refine wp_neq (fun _ => ?_) (fun _ => ?_) | refine wp_add64 (by omega) (by omega) ?_ | refine wp_sub64 (by omega) (by omega) ?_)
  all_goals (first | exact wp_ret ⟨rfl, (congrArg B (decide_eq_true (by omega))).symm, Cx.grows (by assumption)⟩ | exact wp_ret ⟨rfl, (congrArg B (decide_eq_false (by omega))).symm, Cx.grows (by assumption)⟩)
/-- a Front of a ring is begun -/
theorem rnewFront_ok {a b c n : Int} (hn : 1 ≤ n ∧ n ≤ 4096) : wpC EM (.fn (.func 116) [] []) [.agg [I a, I b, I c, I n]] S fun r S' => (∃ q, r = .ptr q 0) ∧ Grows S S' := by
  refine wpC_fn (b := Tryz.a116) rfl rfl ?_
  have H : Cx S [] S [] [] := Cx.enter (by simp)
  unfold Tryz.a116 Tryz.a116x1 Tryz.a116x0
  refine wp_box H rfl fun p S1 H => ?_
  repeat (first|refine zA ?_|refine zB rfl ?_|refine zC ?_|refine zD ?_|refine zE rfl ?_|refine zF ?_|refine zG ?_|refine zH ?_|refine zI ?_|refine zJ ?_|refine zK ?_|refine zL rfl ?_|refine zN rfl ?_)
  refine wp_ld H (by repeat (first | exact List.Mem.head _ | apply List.Mem.tail)) rfl ?_
  refine wp_callV H (rsize_ok (n := n)) fun S2 H => ?_
  rw [decide_eq_true hn]
  refine wp_notT ?_
  repeat (first|refine zA ?_|refine zB rfl ?_|refine zC ?_|refine zD ?_|refine zE rfl ?_|refine zF ?_|refine zG ?_|refine zH ?_|refine zI ?_|refine zJ ?_|refine zK ?_|refine zL rfl ?_|refine zN rfl ?_)
  refine wp_ldn H (by repeat (first | exact List.Mem.head _ | apply List.Mem.tail)) rfl ?_
  refine wp_op (v := .agg [I a, I b, I c, I n, I 1, U 0, I 0, I 0]) rfl ?_
  refine wp_box H rfl fun q S3 H => ?_
  exact wp_ret ⟨rfl, ⟨q, rfl⟩, H.grows⟩
theorem rnewPass_ok {a n t ev now : Int} (ha : 0 ≤ a ∧ a < 4096) (hn : 0 ≤ n ∧ n ≤ 4096) : wpC EM (.fn (.func 111) [] []) [.agg [I a, I n], I t, I ev, I now] S fun r S' => (∃ q, r = .ptr q 0) ∧ Grows S S' := by
  refine wpC_fn (b := Tryz.a111) rfl rfl ?_
  have H : Cx S [] S [] [] := Cx.enter (by simp)
  unfold Tryz.a111 Tryz.a111x3 Tryz.a111x2 Tryz.a111x1 Tryz.a111x0
  refine wp_box H rfl fun p S1 H => ?_
  repeat' (first | (first|refine zA ?_|refine zB rfl ?_|refine zC ?_|refine zD ?_|refine zE rfl ?_|refine zF ?_|refine zG ?_|refine zH ?_|refine zI ?_|refine zJ ?_|refine zK ?_|refine zL rfl ?_|refine zN rfl ?_) | refine wp_bind ?_ | refine wp_box (by assumption) rfl fun _ _ _ => ?_ | refine wp_tmpN (by assumption) rfl rfl rfl fun _ _ _ => ?_ | refine wp_ld (by assumption) (by repeat (first | exact List.Mem.head _ | apply List.Mem.tail)) rfl ?_ | refine wp_ldn (by assumption) (by repeat (first | exact List.Mem.head _ | apply List.Mem.tail)) rfl ?_ | refine wp_notT ?_ | refine wp_notF ?_ | (refine wp_ret ?_; show wp EM _ _ _) | refine wp_lss (fun _ => ?_) (fun _ => ?_) | refine wp_gtr (fun _ => ?_) (fun _ => ?_) | refine wp_leq (fun _ => ?_) (fun _ => ?_) | refine wp_geq (fun _ => ?_) (fun _ => ?_) | refine wp_eql (fun _ => ?_) (fun _ => ?_) | refine wp_neq (fun _ => ?_) (fun _ => ?_) | refine wp_add64 (by omega) (by omega) ?_ | refine wp_sub64 (by omega) (by omega) ?_)
  all_goals first
    | (refine wp_op (v := .agg [I 0, U 0, U 0, I 9, U 0, I 3]) rfl ?_
       refine wp_box (by assumption) rfl fun q S3 H => ?_
       exact wp_ret ⟨rfl, ⟨q, rfl⟩, H.grows⟩)
    | (refine wp_op (v := .sc (.int .u64 (wrapF .u64 ev))) rfl ?_
       refine wp_op (v := .sc (.int .u64 (wrapF .u64 now))) rfl ?_
       refine wp_op (v := .agg [I (a + t), .sc (.int .u64 (wrapF .u64 ev)), .sc (.int .u64 (wrapF .u64 now)), I 1, U 0, I 0]) rfl ?_
       refine wp_box (by assumption) rfl fun q S3 H => ?_
       exact wp_ret ⟨rfl, ⟨q, rfl⟩, H.grows⟩)
theorem lineOf_iff {err line : Int} (h : line ≠ 99) : lineOf err line = 99 ↔ err ≠ 0 := by
  unfold lineOf; split <;> omega
theorem badC_iff {e : Ex} {l : List Tk} {c h : Int} : True := trivial
theorem dnewPick_ok {c : Int} (hv : Fct.sl v 4 (tks l) ∈ ro) (H : Cx B0 W S own ro) : wpC EM (.fn (.func 55) [] []) [.agg (e.cs v), I c] S fun r S' => ∃ x c', r = .ptr x 0 ∧ dOp c' 3 (begE e l (badC e c 1)) ∧ Cx B0 W S' (.obj x (.row c') :: own) ro := by
  refine wpC_fn (b := Tryz.a55) rfl rfl ?_
  unfold Tryz.a55
  refine wp_box H rfl fun p S1 H => ?_
  refine wp_ldn H (by repeat (first | exact List.Mem.head _ | apply List.Mem.tail)) rfl ?_
  refine wp_call (wpC_mono (ofCore_ok (e := e) (l := l) (v := v) (List.mem_cons_of_mem _ hv) H) fun r S2 q => ?_)
  obtain ⟨x, rfl, H⟩ := q
  exact wp_ret ⟨rfl, x, _, rfl, dOp_row (lineOf_iff (by omega)), H.tl⟩
theorem dnewComplete_ok {c : Int} (hv : Fct.sl v 4 (tks l) ∈ ro) (H : Cx B0 W S own ro) : wpC EM (.fn (.func 59) [] []) [.agg (e.cs v), I c] S fun r S' => ∃ x c', r = .ptr x 0 ∧ dOp c' 5 (begE e l (badC e c 1)) ∧ Cx B0 W S' (.obj x (.row c') :: own) ro := by
  refine wpC_fn (b := Tryz.a59) rfl rfl ?_
  unfold Tryz.a59
  refine wp_box H rfl fun p S1 H => ?_
  refine wp_ldn H (by repeat (first | exact List.Mem.head _ | apply List.Mem.tail)) rfl ?_
  refine wp_call (wpC_mono (ofCore_ok (e := e) (l := l) (v := v) (List.mem_cons_of_mem _ hv) H) fun r S2 q => ?_)
  obtain ⟨x, rfl, H⟩ := q
  exact wp_ret ⟨rfl, x, _, rfl, dOp_row (lineOf_iff (by omega)), H.tl⟩
theorem dnewServe_ok {c h : Int} (hv : Fct.sl v 4 (tks l) ∈ ro) (H : Cx B0 W S own ro) : wpC EM (.fn (.func 57) [] []) [.agg (e.cs v), I c, I h] S fun r S' => ∃ x c', r = .ptr x 0 ∧ dOp c' 4 (begE e l (badC e c h)) ∧ Cx B0 W S' (.obj x (.row c') :: own) ro := by
  refine wpC_fn (b := Tryz.a57) rfl rfl ?_
  unfold Tryz.a57
  refine wp_box H rfl fun p S1 H => ?_
  refine wp_ldn H (by repeat (first | exact List.Mem.head _ | apply List.Mem.tail)) rfl ?_
  refine wp_call (wpC_mono (ofCore_ok (e := e) (l := l) (v := v) (List.mem_cons_of_mem _ hv) H) fun r S2 q => ?_)
  obtain ⟨x, rfl, H⟩ := q
  exact wp_ret ⟨rfl, x, _, rfl, dOp_row (lineOf_iff (by omega)), H.tl⟩
theorem dnewTake_ok {c h : Int} (hv : Fct.sl v 4 (tks l) ∈ ro) (H : Cx B0 W S own ro) : wpC EM (.fn (.func 53) [] []) [.agg (e.cs v), I c, I h] S fun r S' => ∃ x c', r = .ptr x 0 ∧ dOp c' 2 (begE e l (badC e c h)) ∧ Cx B0 W S' (.obj x (.row c') :: own) ro := by
  refine wpC_fn (b := Tryz.a53) rfl rfl ?_
  unfold Tryz.a53 Tryz.a53x2 Tryz.a53x1 Tryz.a53x0
  refine wp_box H rfl fun p S1 H => ?_
  refine wp_ldn H (by repeat (first | exact List.Mem.head _ | apply List.Mem.tail)) rfl ?_
  refine wp_call (wpC_mono (ofCore_ok (e := e) (l := l) (v := v) (List.mem_cons_of_mem _ hv) H) fun r S2 q => ?_)
  obtain ⟨x, rfl, H⟩ := q
  repeat (first|refine zA ?_|refine zB rfl ?_|refine zC ?_|refine zD ?_|refine zE rfl ?_|refine zF ?_|refine zG ?_|refine zH ?_|refine zI ?_|refine zJ ?_|refine zK ?_|refine zL rfl ?_|refine zN rfl ?_)
  refine wp_row (j := 34) H 0 rfl rfl ?_
  by_cases h0 : begE e l (badC e c h) = 0
  · obtain ⟨ho, hb⟩ := begE_ok h0
    obtain ⟨b1, b2, b3, b4, b5, b6, b7⟩ := cores_bd ho hb
    obtain ⟨m1, m2, m3, m4⟩ := ringAt_bd b1 b2 b3
    have hroom : 1 ≤ e.mroom ∧ e.mroom ≤ 4096 := by unfold mailQ mailP at b1; omega
    rw [h0] at H ⊢
    refine wp_neq_t (by unfold lineOf; omega) ?_
    refine wp_bind ?_
    repeat (first|refine zA ?_|refine zB rfl ?_|refine zC ?_|refine zD ?_|refine zE rfl ?_|refine zF ?_|refine zG ?_|refine zH ?_|refine zI ?_|refine zJ ?_|refine zK ?_|refine zL rfl ?_|refine zN rfl ?_)
    refine wp_ldn H (show Fct.pt p 0 (e.cs v) ∈ _ by repeat (first | exact List.Mem.head _ | apply List.Mem.tail)) rfl ?_
    refine wp_callV H (rbox_ok (a := e.mfirst) (n := e.mcores) (r := e.mroom) (c := c) ‹_› ‹_› ‹_›) fun S5 H => ?_
    repeat (first|refine zA ?_|refine zB rfl ?_|refine zC ?_|refine zD ?_|refine zE rfl ?_|refine zF ?_|refine zG ?_|refine zH ?_|refine zI ?_|refine zJ ?_|refine zK ?_|refine zL rfl ?_|refine zN rfl ?_)
    refine wp_alloc H fun b3 S4 H => ?_
    refine wp_store (n := 4) H 0 (c := [I 0, I 0, I 0, I 0]) rfl rfl rfl (by simp) fun S6 H => ?_
    have H := H.freeze (i := 0) rfl
    have H : Cx B0 W S6 (.obj x (.row (dRow e v 2 c 0 0 h (lineOf 0 21) Np Np 0)) :: own) (.pt b3 0 (ringCs e.mfirst e.mroom c) :: .pt p 0 (e.cs v) :: ro) := H
    refine wp_ldn H (List.Mem.head _) rfl ?_
    refine wp_callG H (rnewFront_ok hroom) fun f S7 hf H => ?_
    obtain ⟨q, rfl⟩ := hf
    repeat (first|refine zA ?_|refine zB rfl ?_|refine zC ?_|refine zD ?_|refine zE rfl ?_|refine zF ?_|refine zG ?_|refine zH ?_|refine zI ?_|refine zJ ?_|refine zK ?_|refine zL rfl ?_|refine zN rfl ?_)
    refine wp_set1 (j := 42) H 0 rfl (by simp [dRow, Ex.cs]) ⟨rfl, rfl⟩ fun S8 H => ?_
    refine wp_ret ?_
    show wp EM _ _ _
    have H : Cx B0 W S8 (.obj x (.row (dRow e v 2 c 0 0 h 21 Np (.ptr q 0) 0)) :: own) (.pt b3 0 (ringCs e.mfirst e.mroom c) :: .pt p 0 (e.cs v) :: ro) := H
    exact wp_ret ⟨rfl, x, _, rfl, dOp_row (by omega), H.tl.tl⟩
  · refine wp_neq_f (by unfold lineOf; rw [if_neg h0]) ?_
    refine wp_bind ?_
    repeat (first|refine zA ?_|refine zB rfl ?_|refine zC ?_|refine zD ?_|refine zE rfl ?_|refine zF ?_|refine zG ?_|refine zH ?_|refine zI ?_|refine zJ ?_|refine zK ?_|refine zL rfl ?_|refine zN rfl ?_)
    refine wp_ret ?_
    show wp EM _ _ _
    exact wp_ret ⟨rfl, x, _, rfl, dOp_row (lineOf_iff (by omega)), H.tl⟩
theorem dnewRelease_ok {t now : Int} (hv : Fct.sl v 4 (tks l) ∈ ro) (H : Cx B0 W S own ro) : wpC EM (.fn (.func 51) [] []) [.agg (e.cs v), I t, I now] S fun r S' => ∃ x c', r = .ptr x 0 ∧ dOp c' 1 (begE e l (badR l t now)) ∧ Cx B0 W S' (.obj x (.row c') :: own) ro := by
  refine wpC_fn (b := Tryz.a51) rfl rfl ?_
  unfold Tryz.a51 Tryz.a51x6 Tryz.a51x5 Tryz.a51x4 Tryz.a51x3 Tryz.a51x2 Tryz.a51x1 Tryz.a51x0
  refine wp_box H rfl fun p S1 H => ?_
  refine wp_ldn H (by repeat (first | exact List.Mem.head _ | apply List.Mem.tail)) rfl ?_
  refine wp_op (v := .agg (dRow e v 1 0 t now 0 11 Np Np 0)) rfl ?_
  refine wp_boxOwn H rfl fun x S2 H => ?_
  have H : Cx B0 W S2 (.obj x (.row (dRow e v 1 0 t now 0 11 Np Np 0)) :: own) (.pt p 0 (e.cs v) :: ro) := H
  refine wp_bind ?_
  refine wp_ldn H (by repeat (first | exact List.Mem.head _ | apply List.Mem.tail)) rfl ?_
  refine wp_callV H (rsoundE_ok (e := e) (l := l) (v := v) (List.mem_cons_of_mem _ hv) H) fun S3 H => ?_
  refine wp_not ?_
  by_cases he : e.ok l
  · rw [decide_eq_true he]
    refine wp_bind ?_
    repeat (first|refine zA ?_|refine zB rfl ?_|refine zC ?_|refine zD ?_|refine zE rfl ?_|refine zF ?_|refine zG ?_|refine zH ?_|refine zI ?_|refine zJ ?_|refine zK ?_|refine zL rfl ?_|refine zN rfl ?_)
    have fin : ∀ b : Bool, b = decide (badR l t now) → wp EM (.bind (Tryz.a51x2 [.agg (e.cs v), I t, I now] (.ptr p 0) (.ptr x 0) (B b)) none (fun v21 => .ret .normal []) (fun v21 => [])) S3 (boundTo EM none (fun v8 => .ret .normal []) (fun v8 => []) (boundTo EM (some 0) (fun v5 => .ret .ret [.ptr x 0]) (fun v5 => [Np]) fun tg vs S' => tg = .ret ∧ ∃ x c', oneOf vs = .ptr x 0 ∧ dOp c' 1 (begE e l (badR l t now)) ∧ Cx B0 W S' (.obj x (.row c') :: own) ro)) := by
      rintro b rfl
      unfold Tryz.a51x2 Tryz.a51x1 Tryz.a51x0
      refine wp_bind ?_
      by_cases hb : badR l t now
      · rw [decide_eq_true hb]
        repeat (first|refine zA ?_|refine zB rfl ?_|refine zC ?_|refine zD ?_|refine zE rfl ?_|refine zF ?_|refine zG ?_|refine zH ?_|refine zI ?_|refine zJ ?_|refine zK ?_|refine zL rfl ?_|refine zN rfl ?_)
        have hE : begE e l (badR l t now) = 3 := by unfold begE; rw [if_neg (fun q => q he), if_pos hb]
        rw [hE]
        refine wp_call (wpC_mono (dends_ok H) fun r S4 H => ?_)
        refine wp_ret ?_
        show wp EM _ _ _
        refine wp_ret ?_
        show wp EM _ _ _
        refine wp_ret ?_
        show wp EM _ _ _
        exact wp_ret ⟨rfl, x, _, rfl, dOp_row (by omega), H.tl⟩
      · rw [decide_eq_false hb]
        have hE : begE e l (badR l t now) = 0 := by unfold begE; rw [if_neg (fun q => q he), if_neg hb]
        rw [hE]
        unfold badR at hb
        obtain ⟨tn, rfl⟩ : ∃ k : Nat, t = (k : Int) := ⟨t.toNat, by omega⟩
        have htn : tn < l.length := by omega
        have hg : (0 ≤ e.gfirst ∧ e.gfirst < 4096) ∧ (0 ≤ e.gmany ∧ e.gmany ≤ 4096) := by
          unfold Ex.ok cellP tchk at he
          have := he.2.1
          split at this <;> omega
        repeat (first|refine zA ?_|refine zB rfl ?_|refine zC ?_|refine zD ?_|refine zE rfl ?_|refine zF ?_|refine zG ?_|refine zH ?_|refine zI ?_|refine zJ ?_|refine zK ?_|refine zL rfl ?_|refine zN rfl ?_)
        refine wp_ldn H (show Fct.pt p 0 (e.cs v) ∈ _ by repeat (first | exact List.Mem.head _ | apply List.Mem.tail)) rfl ?_
        repeat (first|refine zA ?_|refine zB rfl ?_|refine zC ?_|refine zD ?_|refine zE rfl ?_|refine zF ?_|refine zG ?_|refine zH ?_|refine zI ?_|refine zJ ?_|refine zK ?_|refine zL rfl ?_|refine zN rfl ?_)
        refine wp_ld H (show Fct.pt p 0 (e.cs v) ∈ _ by repeat (first | exact List.Mem.head _ | apply List.Mem.tail)) rfl ?_
        refine wp_saddr (v := v) (i := tn) (L := tks l) H (List.mem_cons_of_mem _ hv) (tks_get htn) fun p1 o1 H => ?_
        repeat (first|refine zA ?_|refine zB rfl ?_|refine zC ?_|refine zD ?_|refine zE rfl ?_|refine zF ?_|refine zG ?_|refine zH ?_|refine zI ?_|refine zJ ?_|refine zK ?_|refine zL rfl ?_|refine zN rfl ?_)
        refine wp_load1 H (by repeat (first | exact List.Mem.head _ | apply List.Mem.tail)) rfl ?_
        refine wp_callG H (rnewPass_ok (a := e.gfirst) (n := e.gmany) hg.1 hg.2) fun f S7 hf H => ?_
        obtain ⟨q, rfl⟩ := hf
        repeat (first|refine zA ?_|refine zB rfl ?_|refine zC ?_|refine zD ?_|refine zE rfl ?_|refine zF ?_|refine zG ?_|refine zH ?_|refine zI ?_|refine zJ ?_|refine zK ?_|refine zL rfl ?_|refine zN rfl ?_)
        refine wp_set1 (j := 35) H 0 rfl (by simp [dRow, Ex.cs]) ⟨rfl, rfl⟩ fun S8 H => ?_
        refine wp_ret ?_
        show wp EM _ _ _
        refine wp_ret ?_
        show wp EM _ _ _
        refine wp_ret ?_
        show wp EM _ _ _
        have H : Cx B0 W S8 (.obj x (.row (dRow e v 1 0 tn now 0 11 (.ptr q 0) Np 0)) :: own) _ := H
        exact wp_ret ⟨rfl, x, _, rfl, dOp_row (by omega), H.tl.tl⟩
    unfold Tryz.a51x2 Tryz.a51x1 Tryz.a51x0 at fin
    have hlen : (tks l).length = l.length := tks_len l
    repeat' (first | (first|refine zA ?_|refine zB rfl ?_|refine zC ?_|refine zD ?_|refine zE rfl ?_|refine zF ?_|refine zG ?_|refine zH ?_|refine zI ?_|refine zJ ?_|refine zK ?_|refine zL rfl ?_|refine zN rfl ?_) | refine wp_ld H (show Fct.pt p 0 (e.cs v) ∈ _ by repeat (first | exact List.Mem.head _ | apply List.Mem.tail)) rfl ?_ | refine wp_len H (List.mem_cons_of_mem _ hv) ?_ | refine wp_lss (fun _ => ?_) (fun _ => ?_) | refine wp_gtr (fun _ => ?_) (fun _ => ?_) | refine wp_geq (fun _ => ?_) (fun _ => ?_))
    all_goals first
      | exact fin true (decide_eq_true (p := badR l t now) (by unfold badR; omega)).symm
      | exact fin false (decide_eq_false (p := badR l t now) (by unfold badR; omega)).symm
  · rw [decide_eq_false he]
    have hE : begE e l (badR l t now) = 2 := by unfold begE; rw [if_pos he]
    rw [hE]
    refine wp_bind ?_
    repeat (first|refine zA ?_|refine zB rfl ?_|refine zC ?_|refine zD ?_|refine zE rfl ?_|refine zF ?_|refine zG ?_|refine zH ?_|refine zI ?_|refine zJ ?_|refine zK ?_|refine zL rfl ?_|refine zN rfl ?_)
    refine wp_call (wpC_mono (dends_ok H) fun r S4 H => ?_)
    refine wp_ret ?_
    show wp EM _ _ _
    refine wp_ret ?_
    show wp EM _ _ _
    exact wp_ret ⟨rfl, x, _, rfl, dOp_row (by omega), H.tl⟩
end
end Go.Abs
namespace Go.Abs
open Go.Proofs
set_option maxRecDepth 100000
set_option linter.unusedVariables false
open Tsk (Tk tks tchk tks_get tks_len)
/-- what an operation that is begun tells -/
def told0 (err : Int) : Int := if err = 0 then 14 else err
theorem told0_ne {err : Int} : told0 err ≠ 0 := by unfold told0; split <;> omega
section
variable {B0 S : AH} {W : List Nat} {own : List Own} {ro : List Fct} {Q : Post} {v : AV} {e : Ex} {l : List Tk} {x : Nat} {c : List AV} {kind err : Int}
theorem pKind_ok (n : Nat) (hm : own[n]? = some (.obj x (.row c))) (hp : pOp c kind err) (H : Cx B0 W S own ro) : wpC EM (.fn (.func 60) [] []) [.ptr x 0] S fun r S' => r = I kind ∧ S' = S := by
  refine wpC_fn (b := Tryz.a60) rfl rfl ?_
  unfold Tryz.a60
  refine wp_op (e_ptrNil (by kernel_rfl)) ?_
  repeat (first|refine zA ?_|refine zB rfl ?_|refine zC ?_|refine zD ?_|refine zE rfl ?_|refine zF ?_|refine zG ?_|refine zH ?_|refine zI ?_|refine zJ ?_|refine zK ?_|refine zL rfl ?_|refine zN rfl ?_)
  refine wp_row (j := 29) H n hm hp.2.1 ?_
  exact wp_ret ⟨rfl, rfl, rfl⟩
theorem pBy_ok (n : Nat) (hm : own[n]? = some (.obj x (.row c))) (hp : pOp c kind err) (H : Cx B0 W S own ro) : wpC EM (.fn (.func 65) [] []) [.ptr x 0] S fun r S' => r = U 0 ∧ S' = S := by
  refine wpC_fn (b := Tryz.a65) rfl rfl ?_
  unfold Tryz.a65
  refine wp_op (e_ptrNil (by kernel_rfl)) ?_
  repeat (first|refine zA ?_|refine zB rfl ?_|refine zC ?_|refine zD ?_|refine zE rfl ?_|refine zF ?_|refine zG ?_|refine zH ?_|refine zI ?_|refine zJ ?_|refine zK ?_|refine zL rfl ?_|refine zN rfl ?_)
  refine wp_row (j := 37) H n hm hp.2.2.1 ?_
  exact wp_ret ⟨rfl, rfl, rfl⟩
theorem pOver_ok (n : Nat) (hm : own[n]? = some (.obj x (.row c))) (hp : pOp c kind err) (H : Cx B0 W S own ro) : wpC EM (.fn (.func 98) [] []) [.ptr x 0] S fun r S' => r = B (decide (err ≠ 0)) ∧ S' = S := by
  refine wpC_fn (b := Tryz.a98) rfl rfl ?_
  unfold Tryz.a98 Tryz.a98x0
  refine wp_op (e_ptrNil (by kernel_rfl)) ?_
  repeat (first|refine zA ?_|refine zB rfl ?_|refine zC ?_|refine zD ?_|refine zE rfl ?_|refine zF ?_|refine zG ?_|refine zH ?_|refine zI ?_|refine zJ ?_|refine zK ?_|refine zL rfl ?_|refine zN rfl ?_)
  obtain ⟨_, _, _, _, h | h⟩ := hp
  · refine wp_row (j := 31) H n hm h.2 ?_
    repeat (first|refine zA ?_|refine zB rfl ?_|refine zC ?_|refine zD ?_|refine zE rfl ?_|refine zF ?_|refine zG ?_|refine zH ?_|refine zI ?_|refine zJ ?_|refine zK ?_|refine zL rfl ?_|refine zN rfl ?_)
    refine wp_op (v := I 0) rfl ?_
    repeat (first|refine zA ?_|refine zB rfl ?_|refine zC ?_|refine zD ?_|refine zE rfl ?_|refine zF ?_|refine zG ?_|refine zH ?_|refine zI ?_|refine zJ ?_|refine zK ?_|refine zL rfl ?_|refine zN rfl ?_)
    refine wp_eql_t rfl ?_
    repeat (first|refine zA ?_|refine zB rfl ?_|refine zC ?_|refine zD ?_|refine zE rfl ?_|refine zF ?_|refine zG ?_|refine zH ?_|refine zI ?_|refine zJ ?_|refine zK ?_|refine zL rfl ?_|refine zN rfl ?_)
    exact wp_ret ⟨rfl, by rw [decide_eq_true h.1]; rfl, rfl⟩
  · obtain ⟨h0, s, k, hs, hk, hl⟩ := h
    refine wp_row (j := 31) H n hm hs ?_
    repeat (first|refine zA ?_|refine zB rfl ?_|refine zC ?_|refine zD ?_|refine zE rfl ?_|refine zF ?_|refine zG ?_|refine zH ?_|refine zI ?_|refine zJ ?_|refine zK ?_|refine zL rfl ?_|refine zN rfl ?_)
    refine wp_op (hl _) ?_
    repeat (first|refine zA ?_|refine zB rfl ?_|refine zC ?_|refine zD ?_|refine zE rfl ?_|refine zF ?_|refine zG ?_|refine zH ?_|refine zI ?_|refine zJ ?_|refine zK ?_|refine zL rfl ?_|refine zN rfl ?_)
    refine wp_eql_f (by omega) ?_
    repeat (first|refine zA ?_|refine zB rfl ?_|refine zC ?_|refine zD ?_|refine zE rfl ?_|refine zF ?_|refine zG ?_|refine zH ?_|refine zI ?_|refine zJ ?_|refine zK ?_|refine zL rfl ?_|refine zN rfl ?_)
    exact wp_ret ⟨rfl, by rw [decide_eq_false (by omega)]; rfl, rfl⟩
theorem pErr_ok (hk : kind ≠ 0) (n : Nat) (hm : own[n]? = some (.obj x (.row c))) (hp : pOp c kind err) (H : Cx B0 W S own ro) : wpC EM (.fn (.func 45) [] []) [.ptr x 0] S fun r S' => r = I (told0 err) ∧ S' = S := by
  refine wpC_fn (b := Tryz.a45) rfl rfl ?_
  unfold Tryz.a45 Tryz.a45x1 Tryz.a45x0
  refine wp_bind ?_
  refine wp_op (e_ptrNil (by kernel_rfl)) ?_
  repeat (first|refine zA ?_|refine zB rfl ?_|refine zC ?_|refine zD ?_|refine zE rfl ?_|refine zF ?_|refine zG ?_|refine zH ?_|refine zI ?_|refine zJ ?_|refine zK ?_|refine zL rfl ?_|refine zN rfl ?_)
  refine wp_row (j := 29) H n hm hp.2.1 ?_
  repeat (first|refine zA ?_|refine zB rfl ?_|refine zC ?_|refine zD ?_|refine zE rfl ?_|refine zF ?_|refine zG ?_|refine zH ?_|refine zI ?_|refine zJ ?_|refine zK ?_|refine zL rfl ?_|refine zN rfl ?_)
  refine wp_eql_f hk ?_
  repeat (first|refine zA ?_|refine zB rfl ?_|refine zC ?_|refine zD ?_|refine zE rfl ?_|refine zF ?_|refine zG ?_|refine zH ?_|refine zI ?_|refine zJ ?_|refine zK ?_|refine zL rfl ?_|refine zN rfl ?_)
  refine wp_call (wpC_mono (pOver_ok n hm hp H) fun r S1 q => ?_)
  obtain ⟨rfl, rfl⟩ := q
  refine wp_not ?_
  unfold told0
  by_cases h0 : err = 0
  · rw [decide_eq_false (by omega), if_pos h0]
    repeat (first|refine zA ?_|refine zB rfl ?_|refine zC ?_|refine zD ?_|refine zE rfl ?_|refine zF ?_|refine zG ?_|refine zH ?_|refine zI ?_|refine zJ ?_|refine zK ?_|refine zL rfl ?_|refine zN rfl ?_)
    exact wp_ret ⟨rfl, rfl, rfl⟩
  · rw [decide_eq_true h0, if_neg h0]
    repeat (first|refine zA ?_|refine zB rfl ?_|refine zC ?_|refine zD ?_|refine zE rfl ?_|refine zF ?_|refine zG ?_|refine zH ?_|refine zI ?_|refine zJ ?_|refine zK ?_|refine zL rfl ?_|refine zN rfl ?_)
    refine wp_ret ?_
    show wp EM _ _ _
    repeat (first|refine zA ?_|refine zB rfl ?_|refine zC ?_|refine zD ?_|refine zE rfl ?_|refine zF ?_|refine zG ?_|refine zH ?_|refine zI ?_|refine zJ ?_|refine zK ?_|refine zL rfl ?_|refine zN rfl ?_)
    refine wp_row (j := 38) H n hm hp.2.2.2.1 ?_
    exact wp_ret ⟨rfl, rfl, rfl⟩
theorem pTold_ok (hk : kind ≠ 0) (n : Nat) (hm : own[n]? = some (.obj x (.row c))) (hp : pOp c kind err) (H : Cx B0 W S own ro) : wpC EM (.fn (.func 63) [] []) [.ptr x 0] S fun r S' => r = .agg [I 0, U 0] ∧ Cx B0 W S' own ro := by
  refine wpC_fn (b := Tryz.a63) rfl rfl ?_
  unfold Tryz.a63 Tryz.a63x3 Tryz.a63x2 Tryz.a63x1 Tryz.a63x0
  refine wp_fin ?_
  refine wp_alloc H fun q S1 H => ?_
  refine wp_call (wpC_mono (pErr_ok hk (n + 1) (by exact hm) hp H) fun r S2 qq => ?_)
  obtain ⟨rfl, rfl⟩ := qq
  refine wp_neq_t told0_ne ?_
  repeat (first|refine zA ?_|refine zB rfl ?_|refine zC ?_|refine zD ?_|refine zE rfl ?_|refine zF ?_|refine zG ?_|refine zH ?_|refine zI ?_|refine zJ ?_|refine zK ?_|refine zL rfl ?_|refine zN rfl ?_)
  refine wp_op (v := .agg [I 0, U 0]) rfl ?_
  refine wp_store (n := 2) H 0 (c := [I 0, U 0]) rfl rfl rfl (by simp) fun S3 H => ?_
  have H : Cx B0 W S3 (.obj q (.row [I 0, U 0]) :: own) ro := H
  refine wp_ret ⟨.inr rfl, ?_⟩
  refine wp_loadoa (n := 2) H 0 rfl (by simp) ?_
  exact wp_ret ⟨rfl, rfl, H.dropAt 0⟩
theorem dKind_ok (n : Nat) (hm : own[n]? = some (.obj x (.row c))) (hp : dOp c kind err) (H : Cx B0 W S own ro) : wpC EM (.fn (.func 61) [] []) [.ptr x 0] S fun r S' => r = I kind ∧ S' = S := by
  refine wpC_fn (b := Tryz.a61) rfl rfl ?_
  unfold Tryz.a61
  repeat (first|refine zA ?_|refine zB rfl ?_|refine zC ?_|refine zD ?_|refine zE rfl ?_|refine zF ?_|refine zG ?_|refine zH ?_|refine zI ?_|refine zJ ?_|refine zK ?_|refine zL rfl ?_|refine zN rfl ?_)
  refine wp_row (j := 29) H n hm hp.2.1 ?_
  exact wp_ret ⟨rfl, rfl, rfl⟩
theorem dBy_ok (n : Nat) (hm : own[n]? = some (.obj x (.row c))) (hp : dOp c kind err) (H : Cx B0 W S own ro) : wpC EM (.fn (.func 66) [] []) [.ptr x 0] S fun r S' => r = U 0 ∧ S' = S := by
  refine wpC_fn (b := Tryz.a66) rfl rfl ?_
  unfold Tryz.a66
  repeat (first|refine zA ?_|refine zB rfl ?_|refine zC ?_|refine zD ?_|refine zE rfl ?_|refine zF ?_|refine zG ?_|refine zH ?_|refine zI ?_|refine zJ ?_|refine zK ?_|refine zL rfl ?_|refine zN rfl ?_)
  refine wp_row (j := 49) H n hm hp.2.2.1 ?_
  exact wp_ret ⟨rfl, rfl, rfl⟩
theorem dErr_ok (n : Nat) (hm : own[n]? = some (.obj x (.row c))) (hp : dOp c kind err) (H : Cx B0 W S own ro) : wpC EM (.fn (.func 62) [] []) [.ptr x 0] S fun r S' => r = I (told0 err) ∧ S' = S := by
  refine wpC_fn (b := Tryz.a62) rfl rfl ?_
  unfold Tryz.a62 Tryz.a62x0
  obtain ⟨_, _, _, he, _, line, hl, hi⟩ := hp
  repeat (first|refine zA ?_|refine zB rfl ?_|refine zC ?_|refine zD ?_|refine zE rfl ?_|refine zF ?_|refine zG ?_|refine zH ?_|refine zI ?_|refine zJ ?_|refine zK ?_|refine zL rfl ?_|refine zN rfl ?_)
  refine wp_row (j := 34) H n hm hl ?_
  unfold told0
  by_cases h0 : err = 0
  · refine wp_neq_t (by omega) ?_
    rw [if_pos h0]
    repeat (first|refine zA ?_|refine zB rfl ?_|refine zC ?_|refine zD ?_|refine zE rfl ?_|refine zF ?_|refine zG ?_|refine zH ?_|refine zI ?_|refine zJ ?_|refine zK ?_|refine zL rfl ?_|refine zN rfl ?_)
    exact wp_ret ⟨rfl, rfl, rfl⟩
  · refine wp_neq_f (hi.2 h0) ?_
    rw [if_neg h0]
    repeat (first|refine zA ?_|refine zB rfl ?_|refine zC ?_|refine zD ?_|refine zE rfl ?_|refine zF ?_|refine zG ?_|refine zH ?_|refine zI ?_|refine zJ ?_|refine zK ?_|refine zL rfl ?_|refine zN rfl ?_)
    refine wp_row (j := 50) H n hm he ?_
    exact wp_ret ⟨rfl, rfl, rfl⟩
theorem dTold_ok (n : Nat) (hm : own[n]? = some (.obj x (.row c))) (hp : dOp c kind err) (H : Cx B0 W S own ro) : wpC EM (.fn (.func 64) [] []) [.ptr x 0] S fun r S' => r = .agg [I 0, U 0] ∧ Cx B0 W S' own ro := by
  refine wpC_fn (b := Tryz.a64) rfl rfl ?_
  unfold Tryz.a64 Tryz.a64x3 Tryz.a64x2 Tryz.a64x1 Tryz.a64x0
  obtain ⟨_, _, _, he, hn, line, hl, hi⟩ := hp
  refine wp_fin ?_
  refine wp_alloc H fun q S1 H => ?_
  repeat (first|refine zA ?_|refine zB rfl ?_|refine zC ?_|refine zD ?_|refine zE rfl ?_|refine zF ?_|refine zG ?_|refine zH ?_|refine zI ?_|refine zJ ?_|refine zK ?_|refine zL rfl ?_|refine zN rfl ?_)
  refine wp_row (j := 34) H (n + 1) (by exact hm) hl ?_
  have key : wp EM (.op (.build [I 0, U 0] []) fun v17 => .op (.store 2 (.ptr q 0) v17) fun v18 => .ret .ret [.ptr q 0]) S1 fun t vs S' => (t = .normal ∨ t = .ret) ∧ wp EM (.op (.load 2 true (nth vs 0)) fun v2 => .ret .ret [v2]) S' fun t vs S' => t = .ret ∧ oneOf vs = .agg [I 0, U 0] ∧ Cx B0 W S' own ro := by
    refine wp_op (v := .agg [I 0, U 0]) rfl ?_
    refine wp_store (n := 2) H 0 (c := [I 0, U 0]) rfl rfl rfl (by simp) fun S3 H => ?_
    have H : Cx B0 W S3 (.obj q (.row [I 0, U 0]) :: own) ro := H
    refine wp_ret ⟨.inr rfl, ?_⟩
    refine wp_loadoa (n := 2) H 0 rfl (by simp) ?_
    exact wp_ret ⟨rfl, rfl, H.dropAt 0⟩
  by_cases h0 : err = 0
  · refine wp_neq_t (by omega) ?_
    repeat (first|refine zA ?_|refine zB rfl ?_|refine zC ?_|refine zD ?_|refine zE rfl ?_|refine zF ?_|refine zG ?_|refine zH ?_|refine zI ?_|refine zJ ?_|refine zK ?_|refine zL rfl ?_|refine zN rfl ?_)
    exact key
  · refine wp_neq_f (hi.2 h0) ?_
    repeat (first|refine zA ?_|refine zB rfl ?_|refine zC ?_|refine zD ?_|refine zE rfl ?_|refine zF ?_|refine zG ?_|refine zH ?_|refine zI ?_|refine zJ ?_|refine zK ?_|refine zL rfl ?_|refine zN rfl ?_)
    refine wp_row (j := 50) H (n + 1) (by exact hm) he ?_
    repeat (first|refine zA ?_|refine zB rfl ?_|refine zC ?_|refine zD ?_|refine zE rfl ?_|refine zF ?_|refine zG ?_|refine zH ?_|refine zI ?_|refine zJ ?_|refine zK ?_|refine zL rfl ?_|refine zN rfl ?_)
    refine wp_neq_t h0 ?_
    repeat (first|refine zA ?_|refine zB rfl ?_|refine zC ?_|refine zD ?_|refine zE rfl ?_|refine zF ?_|refine zG ?_|refine zH ?_|refine zI ?_|refine zJ ?_|refine zK ?_|refine zL rfl ?_|refine zN rfl ?_)
    exact key
/-- do the two tell the same? -/
theorem sameB_ok {y : Nat} {d : List AV} (hk : kind ≠ 0) (hp : pOp c kind err) (hd : dOp d kind err) (H : Cx B0 W S (.obj y (.row d) :: .obj x (.row c) :: own) ro) : wpC EM (.fn (.func 21) [] []) [.agg [.ptr x 0, .ptr y 0]] S fun r S' => r = B true ∧ Cx B0 W S' (.obj y (.row d) :: .obj x (.row c) :: own) ro := by
  refine wpC_fn (b := Tryz.a21) rfl rfl ?_
  unfold Tryz.a21 Tryz.a21x6 Tryz.a21x5 Tryz.a21x4 Tryz.a21x3 Tryz.a21x2 Tryz.a21x1 Tryz.a21x0
  have bp : ∀ i : Nat, AV.beq (.ptr i 0) (.ptr i 0) = true := by intro i; simp [AV.beq]
  refine wp_box H rfl fun p S1 H => ?_
  have H : Cx B0 W S1 (.obj y (.row d) :: .obj x (.row c) :: own) (.pt p 0 [.ptr x 0, .ptr y 0] :: ro) := H
  have hpm : Fct.pt p 0 [.ptr x 0, .ptr y 0] ∈ (.pt p 0 [.ptr x 0, .ptr y 0] :: ro) := List.Mem.head _
  repeat (first|refine zA ?_|refine zB rfl ?_|refine zC ?_|refine zD ?_|refine zE rfl ?_|refine zF ?_|refine zG ?_|refine zH ?_|refine zI ?_|refine zJ ?_|refine zK ?_|refine zL rfl ?_|refine zN rfl ?_)
  refine wp_ld H hpm rfl ?_
  refine wp_op (e_ptrNil (by kernel_rfl)) ?_
  repeat (first|refine zA ?_|refine zB rfl ?_|refine zC ?_|refine zD ?_|refine zE rfl ?_|refine zF ?_|refine zG ?_|refine zH ?_|refine zI ?_|refine zJ ?_|refine zK ?_|refine zL rfl ?_|refine zN rfl ?_)
  refine wp_ld H hpm rfl ?_
  repeat (first|refine zA ?_|refine zB rfl ?_|refine zC ?_|refine zD ?_|refine zE rfl ?_|refine zF ?_|refine zG ?_|refine zH ?_|refine zI ?_|refine zJ ?_|refine zK ?_|refine zL rfl ?_|refine zN rfl ?_)
  refine wp_ld H hpm rfl ?_
  repeat (first|refine zA ?_|refine zB rfl ?_|refine zC ?_|refine zD ?_|refine zE rfl ?_|refine zF ?_|refine zG ?_|refine zH ?_|refine zI ?_|refine zJ ?_|refine zK ?_|refine zL rfl ?_|refine zN rfl ?_)
  refine wp_call (wpC_mono (pKind_ok 1 rfl hp H) fun r S2 q => ?_)
  obtain ⟨rfl, rfl⟩ := q
  refine wp_gchk_t (wp_ck H hpm rfl (bp y) ?_)
  repeat (first|refine zA ?_|refine zB rfl ?_|refine zC ?_|refine zD ?_|refine zE rfl ?_|refine zF ?_|refine zG ?_|refine zH ?_|refine zI ?_|refine zJ ?_|refine zK ?_|refine zL rfl ?_|refine zN rfl ?_)
  refine wp_call (wpC_mono (dKind_ok 0 rfl hd H) fun r S2 q => ?_)
  obtain ⟨rfl, rfl⟩ := q
  repeat (first|refine zA ?_|refine zB rfl ?_|refine zC ?_|refine zD ?_|refine zE rfl ?_|refine zF ?_|refine zG ?_|refine zH ?_|refine zI ?_|refine zJ ?_|refine zK ?_|refine zL rfl ?_|refine zN rfl ?_)
  refine wp_eql_t rfl ?_
  repeat (first|refine zA ?_|refine zB rfl ?_|refine zC ?_|refine zD ?_|refine zE rfl ?_|refine zF ?_|refine zG ?_|refine zH ?_|refine zI ?_|refine zJ ?_|refine zK ?_|refine zL rfl ?_|refine zN rfl ?_)
  refine wp_ld H hpm rfl ?_
  repeat (first|refine zA ?_|refine zB rfl ?_|refine zC ?_|refine zD ?_|refine zE rfl ?_|refine zF ?_|refine zG ?_|refine zH ?_|refine zI ?_|refine zJ ?_|refine zK ?_|refine zL rfl ?_|refine zN rfl ?_)
  refine wp_ld H hpm rfl ?_
  repeat (first|refine zA ?_|refine zB rfl ?_|refine zC ?_|refine zD ?_|refine zE rfl ?_|refine zF ?_|refine zG ?_|refine zH ?_|refine zI ?_|refine zJ ?_|refine zK ?_|refine zL rfl ?_|refine zN rfl ?_)
  refine wp_call (wpC_mono (pErr_ok hk 1 rfl hp H) fun r S2 q => ?_)
  obtain ⟨rfl, rfl⟩ := q
  refine wp_gchk_t (wp_ck H hpm rfl (bp y) ?_)
  repeat (first|refine zA ?_|refine zB rfl ?_|refine zC ?_|refine zD ?_|refine zE rfl ?_|refine zF ?_|refine zG ?_|refine zH ?_|refine zI ?_|refine zJ ?_|refine zK ?_|refine zL rfl ?_|refine zN rfl ?_)
  refine wp_call (wpC_mono (dErr_ok 0 rfl hd H) fun r S2 q => ?_)
  obtain ⟨rfl, rfl⟩ := q
  repeat (first|refine zA ?_|refine zB rfl ?_|refine zC ?_|refine zD ?_|refine zE rfl ?_|refine zF ?_|refine zG ?_|refine zH ?_|refine zI ?_|refine zJ ?_|refine zK ?_|refine zL rfl ?_|refine zN rfl ?_)
  refine wp_eql_t rfl ?_
  repeat (first|refine zA ?_|refine zB rfl ?_|refine zC ?_|refine zD ?_|refine zE rfl ?_|refine zF ?_|refine zG ?_|refine zH ?_|refine zI ?_|refine zJ ?_|refine zK ?_|refine zL rfl ?_|refine zN rfl ?_)
  refine wp_ld H hpm rfl ?_
  repeat (first|refine zA ?_|refine zB rfl ?_|refine zC ?_|refine zD ?_|refine zE rfl ?_|refine zF ?_|refine zG ?_|refine zH ?_|refine zI ?_|refine zJ ?_|refine zK ?_|refine zL rfl ?_|refine zN rfl ?_)
  refine wp_ld H hpm rfl ?_
  repeat (first|refine zA ?_|refine zB rfl ?_|refine zC ?_|refine zD ?_|refine zE rfl ?_|refine zF ?_|refine zG ?_|refine zH ?_|refine zI ?_|refine zJ ?_|refine zK ?_|refine zL rfl ?_|refine zN rfl ?_)
  refine wp_call (wpC_mono (pTold_ok hk 1 rfl hp H) fun r S2 q => ?_)
  obtain ⟨rfl, H⟩ := q
  refine wp_gchk_t (wp_ck H hpm rfl (bp y) ?_)
  repeat (first|refine zA ?_|refine zB rfl ?_|refine zC ?_|refine zD ?_|refine zE rfl ?_|refine zF ?_|refine zG ?_|refine zH ?_|refine zI ?_|refine zJ ?_|refine zK ?_|refine zL rfl ?_|refine zN rfl ?_)
  refine wp_call (wpC_mono (dTold_ok 0 rfl hd H) fun r S2 q => ?_)
  obtain ⟨rfl, H⟩ := q
  repeat (first|refine zA ?_|refine zB rfl ?_|refine zC ?_|refine zD ?_|refine zE rfl ?_|refine zF ?_|refine zG ?_|refine zH ?_|refine zI ?_|refine zJ ?_|refine zK ?_|refine zL rfl ?_|refine zN rfl ?_)
  refine wp_op (S1 := S2) (v := B true) (by kernel_rfl) ?_
  repeat (first|refine zA ?_|refine zB rfl ?_|refine zC ?_|refine zD ?_|refine zE rfl ?_|refine zF ?_|refine zG ?_|refine zH ?_|refine zI ?_|refine zJ ?_|refine zK ?_|refine zL rfl ?_|refine zN rfl ?_)
  refine wp_ld H hpm rfl ?_
  repeat (first|refine zA ?_|refine zB rfl ?_|refine zC ?_|refine zD ?_|refine zE rfl ?_|refine zF ?_|refine zG ?_|refine zH ?_|refine zI ?_|refine zJ ?_|refine zK ?_|refine zL rfl ?_|refine zN rfl ?_)
  refine wp_ld H hpm rfl ?_
  repeat (first|refine zA ?_|refine zB rfl ?_|refine zC ?_|refine zD ?_|refine zE rfl ?_|refine zF ?_|refine zG ?_|refine zH ?_|refine zI ?_|refine zJ ?_|refine zK ?_|refine zL rfl ?_|refine zN rfl ?_)
  refine wp_call (wpC_mono (pBy_ok 1 rfl hp H) fun r S2 q => ?_)
  obtain ⟨rfl, rfl⟩ := q
  refine wp_gchk_t (wp_ck H hpm rfl (bp y) ?_)
  repeat (first|refine zA ?_|refine zB rfl ?_|refine zC ?_|refine zD ?_|refine zE rfl ?_|refine zF ?_|refine zG ?_|refine zH ?_|refine zI ?_|refine zJ ?_|refine zK ?_|refine zL rfl ?_|refine zN rfl ?_)
  refine wp_call (wpC_mono (dBy_ok 0 rfl hd H) fun r S2 q => ?_)
  obtain ⟨rfl, rfl⟩ := q
  repeat (first|refine zA ?_|refine zB rfl ?_|refine zC ?_|refine zD ?_|refine zE rfl ?_|refine zF ?_|refine zG ?_|refine zH ?_|refine zI ?_|refine zJ ?_|refine zK ?_|refine zL rfl ?_|refine zN rfl ?_)
  refine wp_eql_t rfl ?_
  repeat (first|refine zA ?_|refine zB rfl ?_|refine zC ?_|refine zD ?_|refine zE rfl ?_|refine zF ?_|refine zG ?_|refine zH ?_|refine zI ?_|refine zJ ?_|refine zK ?_|refine zL rfl ?_|refine zN rfl ?_)
  exact wp_ret ⟨rfl, rfl, H.tl⟩
end
end Go.Abs
namespace Go.Abs
open Go.Proofs
set_option maxRecDepth 100000
set_option linter.unusedVariables false
open Tsk (Tk tks tchk tks_get tks_len)
section
variable {B0 S : AH} {W : List Nat} {own : List Own} {ro : List Fct} {Q : Post} {v : AV} {e : Ex} {l : List Tk}
/-- what comes back from Begin -/
def Both (B0 : AH) (W : List Nat) (own : List Own) (ro : List Fct) (r : AV) (S' : AH) : Prop := ∃ x y c d kind err, r = .agg [.ptr x 0, .ptr y 0] ∧ kind ≠ 0 ∧ pOp c kind err ∧ dOp d kind err ∧ Cx B0 W S' (.obj y (.row d) :: .obj x (.row c) :: own) ro
theorem begin_ok {c t now h what : Int} (hv : Fct.sl v 4 (tks l) ∈ ro) (h1 : 1 ≤ what) (h5 : what ≤ 5) (H : Cx B0 W S own ro) :
    wpC EM (.fn (.func 20) [] []) [.agg (e.cs v), I c, .agg [I 0, I what, I t, I now, I h]] S (Both B0 W own ro) := by
  refine wpC_fn (b := Tryz.a20) rfl rfl ?_
  unfold Tryz.a20 Tryz.a20x11 Tryz.a20x10 Tryz.a20x9 Tryz.a20x8 Tryz.a20x7 Tryz.a20x6 Tryz.a20x5 Tryz.a20x4 Tryz.a20x3 Tryz.a20x2 Tryz.a20x1 Tryz.a20x0
  refine wp_fin ?_
  refine wp_box H rfl fun p S1 H => ?_
  refine wp_box H rfl fun a S1 H => ?_
  refine wp_alloc H fun q S2 H => ?_
  have H : Cx B0 W S2 (.obj q (.row [Np, Np]) :: own) (.pt a 0 [I 0, I what, I t, I now, I h] :: .pt p 0 (e.cs v) :: ro) := H
  have hpa : Fct.pt a 0 [I 0, I what, I t, I now, I h] ∈ (.pt a 0 [I 0, I what, I t, I now, I h] :: .pt p 0 (e.cs v) :: ro) := List.Mem.head _
  have hpp : Fct.pt p 0 (e.cs v) ∈ (.pt a 0 [I 0, I what, I t, I now, I h] :: .pt p 0 (e.cs v) :: ro) := List.Mem.tail _ (List.Mem.head _)
  have hvv : Fct.sl v 4 (tks l) ∈ (.pt a 0 [I 0, I what, I t, I now, I h] :: .pt p 0 (e.cs v) :: ro) := List.mem_cons_of_mem _ (List.mem_cons_of_mem _ hv)
  have hbq : ∀ y ∈ e.cs v, AV.beq y y = true := Ex.cs_beq (H.rh _ hvv)
  -- the last three steps
  have out : ∀ {x y : Nat} {cc d : List AV} {kind err : Int} {S3 : AH} {tg : Tag} (ht : tg = .normal ∨ tg = .ret), kind ≠ 0 → pOp cc kind err → dOp d kind err → Cx B0 W S3 (.obj y (.row d) :: .obj x (.row cc) :: .obj q (.row [.ptr x 0, .ptr y 0]) :: own) (.pt a 0 [I 0, I what, I t, I now, I h] :: .pt p 0 (e.cs v) :: ro) →
      (tg = .normal ∨ tg = .ret) ∧ wp EM (.op (.load 2 true (nth [AV.ptr q 0] 0)) fun v2 => .ret .ret [v2]) S3 fun t vs S' => t = .ret ∧ Both B0 W own ro (oneOf vs) S' := by
    intro x y cc d kind err S3 tg ht hk hp hd H
    refine ⟨ht, ?_⟩
    refine wp_loadoa (n := 2) H 2 rfl (by simp) ?_
    exact wp_ret ⟨rfl, x, y, cc, d, kind, err, rfl, hk, hp, hd, (H.dropAt 2).tl.tl⟩
  repeat (first|refine zA ?_|refine zB rfl ?_|refine zC ?_|refine zD ?_|refine zE rfl ?_|refine zF ?_|refine zG ?_|refine zH ?_|refine zI ?_|refine zJ ?_|refine zK ?_|refine zL rfl ?_|refine zN rfl ?_)
  refine wp_ld H hpa rfl ?_
  refine wp_bind ?_
  rcases (show what = 1 ∨ what = 2 ∨ what = 3 ∨ what = 4 ∨ what = 5 by omega) with rfl | rfl | rfl | rfl | rfl
  · refine wp_eql_t rfl ?_
    repeat (first|refine zA ?_|refine zB rfl ?_|refine zC ?_|refine zD ?_|refine zE rfl ?_|refine zF ?_|refine zG ?_|refine zH ?_|refine zI ?_|refine zJ ?_|refine zK ?_|refine zL rfl ?_|refine zN rfl ?_)
    refine wp_ldn H hpp rfl ?_
    repeat (first|refine zA ?_|refine zB rfl ?_|refine zC ?_|refine zD ?_|refine zE rfl ?_|refine zF ?_|refine zG ?_|refine zH ?_|refine zI ?_|refine zJ ?_|refine zK ?_|refine zL rfl ?_|refine zN rfl ?_)
    refine wp_ld H hpa rfl ?_
    repeat (first|refine zA ?_|refine zB rfl ?_|refine zC ?_|refine zD ?_|refine zE rfl ?_|refine zF ?_|refine zG ?_|refine zH ?_|refine zI ?_|refine zJ ?_|refine zK ?_|refine zL rfl ?_|refine zN rfl ?_)
    refine wp_ld H hpa rfl ?_
    refine wp_ldn H hpp rfl ?_
    repeat (first|refine zA ?_|refine zB rfl ?_|refine zC ?_|refine zD ?_|refine zE rfl ?_|refine zF ?_|refine zG ?_|refine zH ?_|refine zI ?_|refine zJ ?_|refine zK ?_|refine zL rfl ?_|refine zN rfl ?_)
    refine wp_ld H hpa rfl ?_
    repeat (first|refine zA ?_|refine zB rfl ?_|refine zC ?_|refine zD ?_|refine zE rfl ?_|refine zF ?_|refine zG ?_|refine zH ?_|refine zI ?_|refine zJ ?_|refine zK ?_|refine zL rfl ?_|refine zN rfl ?_)
    refine wp_ld H hpa rfl ?_
    refine wp_call (wpC_mono (newRelease_ok (e := e) (l := l) (v := v) hvv H) fun r S3 qq => ?_)
    obtain ⟨x, cc, rfl, hp, H⟩ := qq
    refine wp_ckn (n := 29) (cs := e.cs v) H hpp rfl rfl hbq ?_
    refine wp_ck H hpa rfl beq_num ?_
    refine wp_ck H hpa rfl beq_num ?_
    refine wp_call (wpC_mono (dnewRelease_ok (e := e) (l := l) (v := v) hvv H) fun r S4 qq => ?_)
    obtain ⟨y, d, rfl, hd, H⟩ := qq
    refine wp_op (v := .agg [.ptr x 0, .ptr y 0]) rfl ?_
    refine wp_store (n := 2) H 2 (c := [Np, Np]) rfl rfl rfl (by simp) fun S5 H => ?_
    refine wp_ret ?_
    exact out (.inr rfl) (by omega) hp hd H
  · refine wp_eql_f (by omega) ?_
    repeat (first|refine zA ?_|refine zB rfl ?_|refine zC ?_|refine zD ?_|refine zE rfl ?_|refine zF ?_|refine zG ?_|refine zH ?_|refine zI ?_|refine zJ ?_|refine zK ?_|refine zL rfl ?_|refine zN rfl ?_)
    refine wp_eql_t rfl ?_
    repeat (first|refine zA ?_|refine zB rfl ?_|refine zC ?_|refine zD ?_|refine zE rfl ?_|refine zF ?_|refine zG ?_|refine zH ?_|refine zI ?_|refine zJ ?_|refine zK ?_|refine zL rfl ?_|refine zN rfl ?_)
    refine wp_ldn H hpp rfl ?_
    repeat (first|refine zA ?_|refine zB rfl ?_|refine zC ?_|refine zD ?_|refine zE rfl ?_|refine zF ?_|refine zG ?_|refine zH ?_|refine zI ?_|refine zJ ?_|refine zK ?_|refine zL rfl ?_|refine zN rfl ?_)
    refine wp_ld H hpa rfl ?_
    refine wp_ldn H hpp rfl ?_
    repeat (first|refine zA ?_|refine zB rfl ?_|refine zC ?_|refine zD ?_|refine zE rfl ?_|refine zF ?_|refine zG ?_|refine zH ?_|refine zI ?_|refine zJ ?_|refine zK ?_|refine zL rfl ?_|refine zN rfl ?_)
    refine wp_ld H hpa rfl ?_
    refine wp_call (wpC_mono (newTake_ok (e := e) (l := l) (v := v) hvv H) fun r S3 qq => ?_)
    obtain ⟨x, cc, rfl, hp, H⟩ := qq
    refine wp_ckn (n := 29) (cs := e.cs v) H hpp rfl rfl hbq ?_
    refine wp_ck H hpa rfl beq_num ?_
    refine wp_call (wpC_mono (dnewTake_ok (e := e) (l := l) (v := v) hvv H) fun r S4 qq => ?_)
    obtain ⟨y, d, rfl, hd, H⟩ := qq
    refine wp_op (v := .agg [.ptr x 0, .ptr y 0]) rfl ?_
    refine wp_store (n := 2) H 2 (c := [Np, Np]) rfl rfl rfl (by simp) fun S5 H => ?_
    refine wp_ret ?_
    exact out (.inr rfl) (by omega) hp hd H
  · refine wp_eql_f (by omega) ?_
    repeat (first|refine zA ?_|refine zB rfl ?_|refine zC ?_|refine zD ?_|refine zE rfl ?_|refine zF ?_|refine zG ?_|refine zH ?_|refine zI ?_|refine zJ ?_|refine zK ?_|refine zL rfl ?_|refine zN rfl ?_)
    refine wp_eql_f (by omega) ?_
    repeat (first|refine zA ?_|refine zB rfl ?_|refine zC ?_|refine zD ?_|refine zE rfl ?_|refine zF ?_|refine zG ?_|refine zH ?_|refine zI ?_|refine zJ ?_|refine zK ?_|refine zL rfl ?_|refine zN rfl ?_)
    refine wp_eql_t rfl ?_
    repeat (first|refine zA ?_|refine zB rfl ?_|refine zC ?_|refine zD ?_|refine zE rfl ?_|refine zF ?_|refine zG ?_|refine zH ?_|refine zI ?_|refine zJ ?_|refine zK ?_|refine zL rfl ?_|refine zN rfl ?_)
    refine wp_ldn H hpp rfl ?_
    refine wp_ldn H hpp rfl ?_
    refine wp_call (wpC_mono (newPick_ok (e := e) (l := l) (v := v) hvv H) fun r S3 qq => ?_)
    obtain ⟨x, cc, rfl, hp, H⟩ := qq
    refine wp_ckn (n := 29) (cs := e.cs v) H hpp rfl rfl hbq ?_
    refine wp_call (wpC_mono (dnewPick_ok (e := e) (l := l) (v := v) hvv H) fun r S4 qq => ?_)
    obtain ⟨y, d, rfl, hd, H⟩ := qq
    refine wp_op (v := .agg [.ptr x 0, .ptr y 0]) rfl ?_
    refine wp_store (n := 2) H 2 (c := [Np, Np]) rfl rfl rfl (by simp) fun S5 H => ?_
    refine wp_ret ?_
    exact out (.inr rfl) (by omega) hp hd H
  · refine wp_eql_f (by omega) ?_
    repeat (first|refine zA ?_|refine zB rfl ?_|refine zC ?_|refine zD ?_|refine zE rfl ?_|refine zF ?_|refine zG ?_|refine zH ?_|refine zI ?_|refine zJ ?_|refine zK ?_|refine zL rfl ?_|refine zN rfl ?_)
    refine wp_eql_f (by omega) ?_
    repeat (first|refine zA ?_|refine zB rfl ?_|refine zC ?_|refine zD ?_|refine zE rfl ?_|refine zF ?_|refine zG ?_|refine zH ?_|refine zI ?_|refine zJ ?_|refine zK ?_|refine zL rfl ?_|refine zN rfl ?_)
    refine wp_eql_f (by omega) ?_
    repeat (first|refine zA ?_|refine zB rfl ?_|refine zC ?_|refine zD ?_|refine zE rfl ?_|refine zF ?_|refine zG ?_|refine zH ?_|refine zI ?_|refine zJ ?_|refine zK ?_|refine zL rfl ?_|refine zN rfl ?_)
    refine wp_eql_t rfl ?_
    repeat (first|refine zA ?_|refine zB rfl ?_|refine zC ?_|refine zD ?_|refine zE rfl ?_|refine zF ?_|refine zG ?_|refine zH ?_|refine zI ?_|refine zJ ?_|refine zK ?_|refine zL rfl ?_|refine zN rfl ?_)
    refine wp_ldn H hpp rfl ?_
    repeat (first|refine zA ?_|refine zB rfl ?_|refine zC ?_|refine zD ?_|refine zE rfl ?_|refine zF ?_|refine zG ?_|refine zH ?_|refine zI ?_|refine zJ ?_|refine zK ?_|refine zL rfl ?_|refine zN rfl ?_)
    refine wp_ld H hpa rfl ?_
    refine wp_ldn H hpp rfl ?_
    repeat (first|refine zA ?_|refine zB rfl ?_|refine zC ?_|refine zD ?_|refine zE rfl ?_|refine zF ?_|refine zG ?_|refine zH ?_|refine zI ?_|refine zJ ?_|refine zK ?_|refine zL rfl ?_|refine zN rfl ?_)
    refine wp_ld H hpa rfl ?_
    refine wp_call (wpC_mono (newServe_ok (e := e) (l := l) (v := v) hvv H) fun r S3 qq => ?_)
    obtain ⟨x, cc, rfl, hp, H⟩ := qq
    refine wp_ckn (n := 29) (cs := e.cs v) H hpp rfl rfl hbq ?_
    refine wp_ck H hpa rfl beq_num ?_
    refine wp_call (wpC_mono (dnewServe_ok (e := e) (l := l) (v := v) hvv H) fun r S4 qq => ?_)
    obtain ⟨y, d, rfl, hd, H⟩ := qq
    refine wp_op (v := .agg [.ptr x 0, .ptr y 0]) rfl ?_
    refine wp_store (n := 2) H 2 (c := [Np, Np]) rfl rfl rfl (by simp) fun S5 H => ?_
    refine wp_ret ?_
    exact out (.inr rfl) (by omega) hp hd H
  · refine wp_eql_f (by omega) ?_
    repeat (first|refine zA ?_|refine zB rfl ?_|refine zC ?_|refine zD ?_|refine zE rfl ?_|refine zF ?_|refine zG ?_|refine zH ?_|refine zI ?_|refine zJ ?_|refine zK ?_|refine zL rfl ?_|refine zN rfl ?_)
    refine wp_eql_f (by omega) ?_
    repeat (first|refine zA ?_|refine zB rfl ?_|refine zC ?_|refine zD ?_|refine zE rfl ?_|refine zF ?_|refine zG ?_|refine zH ?_|refine zI ?_|refine zJ ?_|refine zK ?_|refine zL rfl ?_|refine zN rfl ?_)
    refine wp_eql_f (by omega) ?_
    repeat (first|refine zA ?_|refine zB rfl ?_|refine zC ?_|refine zD ?_|refine zE rfl ?_|refine zF ?_|refine zG ?_|refine zH ?_|refine zI ?_|refine zJ ?_|refine zK ?_|refine zL rfl ?_|refine zN rfl ?_)
    refine wp_eql_f (by omega) ?_
    repeat (first|refine zA ?_|refine zB rfl ?_|refine zC ?_|refine zD ?_|refine zE rfl ?_|refine zF ?_|refine zG ?_|refine zH ?_|refine zI ?_|refine zJ ?_|refine zK ?_|refine zL rfl ?_|refine zN rfl ?_)
    refine wp_ret ?_
    show wp EM _ _ _
    refine wp_ldn H hpp rfl ?_
    refine wp_ldn H hpp rfl ?_
    refine wp_call (wpC_mono (newComplete_ok (e := e) (l := l) (v := v) hvv H) fun r S3 qq => ?_)
    obtain ⟨x, cc, rfl, hp, H⟩ := qq
    refine wp_ckn (n := 29) (cs := e.cs v) H hpp rfl rfl hbq ?_
    refine wp_call (wpC_mono (dnewComplete_ok (e := e) (l := l) (v := v) hvv H) fun r S4 qq => ?_)
    obtain ⟨y, d, rfl, hd, H⟩ := qq
    refine wp_op (v := .agg [.ptr x 0, .ptr y 0]) rfl ?_
    refine wp_store (n := 2) H 2 (c := [Np, Np]) rfl rfl rfl (by simp) fun S5 H => ?_
    refine wp_ret ?_
    exact out (.inr rfl) (by omega) hp hd H
theorem execNew_ok {S : AH} {v : AV} {e : Ex} {l : List Tk} {c t now h : Int} (hv : RoSl S v 4 (tks l)) : wpC EM (.fn (.func 4) [] []) [.agg (e.cs v), I c, I t, I now, I h] S fun r _ => r = B true := by
  refine wpC_fn (b := Tryz.a4) rfl rfl ?_
  have H := Cx.ro1 hv
  unfold Tryz.a4 Tryz.a4x5 Tryz.a4x4 Tryz.a4x3 Tryz.a4x2 Tryz.a4x1 Tryz.a4x0
  refine wp_box H rfl fun p S1 H => ?_
  have H : Cx S [] S1 [] [.pt p 0 (e.cs v), .sl v 4 (tks l)] := H
  repeat (first|refine zA ?_|refine zB rfl ?_|refine zC ?_|refine zD ?_|refine zE rfl ?_|refine zF ?_|refine zG ?_|refine zH ?_|refine zI ?_|refine zJ ?_|refine zK ?_|refine zL rfl ?_|refine zN rfl ?_)
  refine wp_ld H (by repeat (first | exact List.Mem.head _ | apply List.Mem.tail)) rfl ?_
  refine wp_len H (by repeat (first | exact List.Mem.head _ | apply List.Mem.tail)) ?_
  rw [Tsk.tks_len]
  refine wp_gtr (fun hbig => ?_) (fun hsm => ?_)
  · repeat (first|refine zA ?_|refine zB rfl ?_|refine zC ?_|refine zD ?_|refine zE rfl ?_|refine zF ?_|refine zG ?_|refine zH ?_|refine zI ?_|refine zJ ?_|refine zK ?_|refine zL rfl ?_|refine zN rfl ?_)
    exact wp_call (wpC_kn (v := B true) rfl (wp_ret ⟨rfl, rfl⟩))
  repeat (first|refine zA ?_|refine zB rfl ?_|refine zC ?_|refine zD ?_|refine zE rfl ?_|refine zF ?_|refine zG ?_|refine zH ?_|refine zI ?_|refine zJ ?_|refine zK ?_|refine zL rfl ?_|refine zN rfl ?_)
  refine wp_ldn H (by repeat (first | exact List.Mem.head _ | apply List.Mem.tail)) rfl ?_
  refine wp_ldn H (by repeat (first | exact List.Mem.head _ | apply List.Mem.tail)) rfl ?_
  refine wp_callV H (soundE_ok (e := e) (l := l) (v := v) (by repeat (first | exact List.Mem.head _ | apply List.Mem.tail)) H) fun S3 H => ?_
  refine wp_ckn (n := 29) (cs := e.cs v) H (by repeat (first | exact List.Mem.head _ | apply List.Mem.tail)) rfl rfl (Ex.cs_beq (H.rh _ (show Fct.sl v 4 (tks l) ∈ _ by repeat (first | exact List.Mem.head _ | apply List.Mem.tail)))) ?_
  refine wp_callV H (rsoundE_ok (e := e) (l := l) (v := v) (by repeat (first | exact List.Mem.head _ | apply List.Mem.tail)) H) fun S3 H => ?_
  refine wp_op (S1 := S3) (v := B false) (by cases decide (e.ok l) <;> kernel_rfl) ?_
  repeat (first|refine zA ?_|refine zB rfl ?_|refine zC ?_|refine zD ?_|refine zE rfl ?_|refine zF ?_|refine zG ?_|refine zH ?_|refine zI ?_|refine zJ ?_|refine zK ?_|refine zL rfl ?_|refine zN rfl ?_)
  refine wp_bind (wp_loop (wpL_for 5 (fun i vs S' => (∃ u, vs = [I ((i : Int) + 1), u]) ∧ Cx S [] S' [] [.pt p 0 (e.cs v), .sl v 4 (tks l)]) ?_ ?_ ⟨⟨_, rfl⟩, H⟩))
  · rintro i vs S4 hi ⟨⟨u, rfl⟩, H⟩
    refine wp_leq_t (by omega) ?_
    repeat (first|refine zA ?_|refine zB rfl ?_|refine zC ?_|refine zD ?_|refine zE rfl ?_|refine zF ?_|refine zG ?_|refine zH ?_|refine zI ?_|refine zJ ?_|refine zK ?_|refine zL rfl ?_|refine zN rfl ?_)
    refine wp_bind ?_
    refine wp_ldn H (by repeat (first | exact List.Mem.head _ | apply List.Mem.tail)) rfl ?_
    refine wp_op (v := .agg [I 0, I ((i : Int) + 1), I t, I now, I h]) rfl ?_
    refine wp_call (wpC_mono (begin_ok (e := e) (l := l) (v := v) (by repeat (first | exact List.Mem.head _ | apply List.Mem.tail)) (by omega) (by omega) H) fun r S5 q => ?_)
    obtain ⟨x, y, cc, d, kind, err, rfl, hk, hp, hd, H⟩ := q
    refine wp_call (wpC_mono (sameB_ok hk hp hd H) fun r S6 q => ?_)
    obtain ⟨rfl, H⟩ := q
    refine wp_notT ?_
    repeat (first|refine zA ?_|refine zB rfl ?_|refine zC ?_|refine zD ?_|refine zE rfl ?_|refine zF ?_|refine zG ?_|refine zH ?_|refine zI ?_|refine zJ ?_|refine zK ?_|refine zL rfl ?_|refine zN rfl ?_)
    refine wp_ret ?_
    show wp EM _ _ _
    refine wp_add64 (by omega) (by omega) ?_
    exact wp_ret (.inl ⟨rfl, ⟨_, rfl⟩, (H.dropAt 0).dropAt 0⟩)
  · rintro vs S4 ⟨⟨u, rfl⟩, H⟩
    refine wp_leq_f (by omega) ?_
    repeat (first|refine zA ?_|refine zB rfl ?_|refine zC ?_|refine zD ?_|refine zE rfl ?_|refine zF ?_|refine zG ?_|refine zH ?_|refine zI ?_|refine zJ ?_|refine zK ?_|refine zL rfl ?_|refine zN rfl ?_)
    refine wp_ret ⟨by simp, ?_⟩
    show wp EM _ _ _
    exact wp_call (wpC_kn (v := B true) rfl (wp_ret ⟨rfl, rfl⟩))
end
end Go.Abs
