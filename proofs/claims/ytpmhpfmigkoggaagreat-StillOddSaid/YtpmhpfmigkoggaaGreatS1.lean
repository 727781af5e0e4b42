/- functions of this cut: what they compute, in the abstract machine. Conditions: stated in each theorem -/
import Derived.Test.YtpmhpfmigkoggaaGreatS0
set_option linter.unusedVariables false
set_option linter.unusedSimpArgs false
namespace Go.Abs
open Go.Proofs
set_option maxRecDepth 100000
set_option linter.unusedVariables false
def Fv (v : AV) : Prop := odd v = false ∧ v.cells = [v]
theorem fvFn {f : Fn} {a b : List AV} : Fv (.fn f a b) := ⟨rfl, rfl⟩
theorem fvNf : Fv Nf := ⟨rfl, rfl⟩
theorem setRange_one {x : List AV} {c : AV} {j : Nat} (hj : j < x.length) : setRange x j [c] = x.set j c := by
  apply List.ext_getElem?
  intro i
  rw [setRange_get (by simp; omega), List.getElem?_set]
  by_cases h : j = i
  · subst h; simp [hj]
  · rw [if_neg (by simp; omega), if_neg h]
section
variable {B0 S : AH} {W : List Nat} {own : List Own} {ro : List Fct} {Q : Post} {k : AV → AC} {v : AV}
theorem Cx.permS (H : Cx B0 W S own ro) {own' : List Own} (h : own.Perm own') : Cx B0 W S own' ro where
  next := H.next
  old := H.old
  oh := fun x hx => H.oh x (h.mem_iff.2 hx)
  oi := fun x hx => H.oi x (h.mem_iff.2 hx)
  od := (h.pairwise_iff (fun {x y} hxy id hy hx => hxy id hx hy)).1 H.od
  rh := H.rh
  ri := fun φ hφ id hid => ⟨(H.ri φ hφ id hid).1, fun x hx => (H.ri φ hφ id hid).2 x (h.mem_iff.2 hx)⟩

/-! ### functions that are known without a body -/
theorem wp_row {M : Mach} (H : Cx B0 W S own ro) (n : Nat) {id j : Nat} {c : List AV} {v : AV} (hm : own[n]? = some (.obj id (.row c))) (hj : c[j]? = some v) (h : wp M (k v) S Q) : wp M (.op (.load 1 false (.ptr id j)) k) S Q := wp_loado H n hm hj h
theorem wp_set1 {M : Mach} (H : Cx B0 W S own ro) (n : Nat) {id j : Nat} {c : List AV} {v : AV} (hm : own[n]? = some (.obj id (.row c))) (hj : j < c.length) (hv : Fv v) (h : ∀ S1, Cx B0 W S1 (own.set n (.obj id (.row (c.set j v)))) ro → wp M (k uv) S1 Q) :
    wp M (.op (.store 1 (.ptr id j) v) k) S Q :=
  wp_store H n hm hv.1 (by rw [hv.2]; rfl) (by omega) fun S1 H1 => h S1 (by rw [hv.2, setRange_one hj] at H1; exact H1)
theorem slW_len {M : Mach} {S : AH} {v : AV} {es : Nat} {L : List (List AV)} (h : slW S v es L) (S1 : AH) : evalOp M.P (.len false v) S1 = some (I (L.length : Nat), S1) := by
  rcases h with ⟨rfl, rfl⟩ | ⟨id, off, c, h1, h2, h3, h4⟩
  · rfl
  · rcases h1 with ⟨cap, _, _, rfl⟩ | ⟨cmin, _, _, rfl⟩ <;> rfl
theorem wp_loadF0 {M : Mach} {id off : Nat} {e : AV} (hp : (Fct.pt id off [e]).holds S) (h : wp M (k e) S Q) : wp M (.op (.load 1 false (.ptr id off)) k) S Q := by
  obtain ⟨c, h1, h2⟩ := pt_get (j := 0) hp rfl
  exact wp_op (e_load1 h1 h2) h
def vals (L : List AV) : List (List AV) := L.map fun e => [e]
end
theorem e_ptrNil {M : Mach} {S : AH} {t id off : Nat} {n : Bool} (ht : typc M.P t = 1) : evalOp M.P (.eq t n (.ptr id off) Np) S = some (B n, S) := by
  show pur (pEq M.P t n (.ptr id off) Np) S = _
  have : aeq M.P t (.ptr id off) Np = some false := by
    unfold aeq
    rw [ht]
    rfl
  unfold pEq
  rw [this]
  cases n <;> rfl
section
variable {M : Mach} {B0 S : AH} {W : List Nat} {own : List Own} {ro : List Fct} {Q : Post}
/-- a range over a function: Done says how it ended -/
theorem wp_rngX (H : Cx B0 W S own ro) {m : Nat} {f : AV} {body : List AV → AC} {kk : AC} {outs : List AV} (hf : ∀ i, f ≠ .yd i) (Done : Option Tag → AH → Prop)
    (hc : ∀ l S1, Cx B0 W S1 (.obj l (.loop .ready none m body) :: own) ro → wpC M f [.yd l] S1 fun _ S' => ∃ st p m' b', S'.get l = some (.loop st p m' b') ∧ st ≠ .busy ∧ ∀ S2, S2.next = S'.next → (∀ j, j ≠ l → S2.get j = S'.get j) → Done p S2)
    (h : ∀ S2, Done none S2 → wp M kk S2 Q) (h' : ∀ t S2, Done (some t) S2 → Q t outs S2) : wp M (.rng m f body kk outs) S Q := by
  refine wp_rng hf (wpC_mono (hc S.next _ (H.addOwn (Grows.new S _) (get_new_same _ _) ?_)) fun v S' ⟨st, p, m', b', h1, h2, h3⟩ => ⟨st, p, m', b', h1, h2, ?_⟩)
  · intro j hj
    simp only [Own.ids, List.mem_singleton] at hj
    subst hj
    exact ⟨Nat.le_refl _, by simp⟩
  · have key := h3 (S'.set S.next (.loop .exhausted p m' b')) rfl fun j hj => by rw [AH.get_set, if_neg hj]
    cases p with
    | none => exact h _ key
    | some t => exact h' t _ key
/-- a round, however it ends -/
theorem wpC_ydX (H : Cx B0 W S own ro) (n : Nat) {l m : Nat} {args : List AV} {body : List AV → AC} {R : AV → AH → Prop} (hm : own[n]? = some (.obj l (.loop .ready none m body))) (hl : args.length = m)
    (h : wp M (body (.yd l :: args)) S fun t _ S' => ∃ own' ro', Cx B0 W S' own' ro' ∧ own'[n]? = some (.obj l (.loop .busy none m body)) ∧
      ((t = .normal ∧ ∀ S2, Cx B0 W S2 (own'.set n (.obj l (.loop .ready none m body))) ro' → R (B true) S2) ∨ (t ≠ .normal ∧ ∀ S2, Cx B0 W S2 (own'.set n (.obj l (.loop .done (some t) m body))) ro' → R (B false) S2))) :
    wpC M (.yd l) args S R := by
  refine wpC_yd (H.oh _ (List.mem_of_getElem? hm)) hl (wp_mono h fun t vs S' q => ?_)
  obtain ⟨own', ro', H', hm', hR⟩ := q
  refine ⟨none, m, body, H'.oh _ (List.mem_of_getElem? hm'), ?_⟩
  rcases hR with ⟨rfl, hR⟩ | ⟨ht, hR⟩
  · exact hR _ (H'.setOb hm' _)
  · cases t with
    | normal => exact absurd rfl ht
    | _ => exact hR _ (H'.setOb hm' _)
end
/-! ### mailboxes -/
def mailP (a n r : Int) : Prop := 1 ≤ n ∧ n ≤ 64 ∧ 1 ≤ r ∧ r ≤ 16
instance (a n r : Int) : Decidable (mailP a n r) := inferInstanceAs (Decidable (_ ∧ _))
def mailQ (a n r : Int) : Prop := mailP a n r ∧ 0 ≤ a ∧ a < 4096
instance (a n r : Int) : Decidable (mailQ a n r) := inferInstanceAs (Decidable (_ ∧ _))
theorem sizedM_ok {S : AH} {a n r : Int} : wpC EM (.fn (.func 146) [] []) [.agg [I a, I n, I r]] S fun r' S' => r' = B (decide (mailP a n r)) ∧ Grows S S' := by
  refine wpC_fn (b := Tryz.a146) rfl rfl ?_
  have H : Cx S [] S [] [] := Cx.enter (by simp)
  unfold mailP Tryz.a146 Tryz.a146x1 Tryz.a146x0
  repeat' (first | (first|refine zA ?_|refine zB rfl ?_|refine zC ?_|refine zD ?_|refine zE rfl ?_|refine zF ?_|refine zG ?_|refine zH ?_|refine zI ?_|refine zJ ?_|refine zK ?_|refine zL rfl ?_|refine zN rfl ?_) | refine wp_bind ?_ | refine wp_box (by assumption) rfl fun _ _ _ => ?_ | refine wp_tmpN (by assumption) rfl rfl rfl fun _ _ _ => ?_ | refine wp_ld (by assumption) (by repeat (first | exact List.Mem.head _ | apply List.Mem.tail)) rfl ?_ | refine wp_ldn (by assumption) (by repeat (first | exact List.Mem.head _ | apply List.Mem.tail)) rfl ?_ | refine wp_notT ?_ | refine wp_notF ?_ | (refine wp_ret ?_; show wp EM _ _ _) | refine wp_lss (fun _ => ?_) (fun _ => ?_) | refine wp_gtr (fun _ => ?_) (fun _ => ?_) | refine wp_leq (fun _ => ?_) (fun _ => ?_) | refine wp_geq (fun _ => ?_) (fun _ => ?_) | refine wp_eql (fun _ => ?_) (fun _ => ?_) | refine wp_neq (fun _ => ?_) (fun _ => ?_) | refine wp_add64 (by omega) (by omega) ?_ | refine wp_sub64 (by omega) (by omega) ?_)
  all_goals (first | exact wp_ret ⟨rfl, (congrArg B (decide_eq_true (by omega))).symm, Cx.grows (by assumption)⟩ | exact wp_ret ⟨rfl, (congrArg B (decide_eq_false (by omega))).symm, Cx.grows (by assumption)⟩)
theorem placedM_ok {S : AH} {a n r : Int} : wpC EM (.fn (.func 91) [] []) [.agg [I a, I n, I r]] S fun r' S' => r' = B (decide (mailQ a n r)) ∧ Grows S S' := by
  refine wpC_fn (b := Tryz.a91) rfl rfl ?_
  have H : Cx S [] S [] [] := Cx.enter (by simp)
  unfold Tryz.a91 Tryz.a91x0
  refine wp_box H rfl fun p S1 H => ?_
  refine wp_ldn H (by repeat (first | exact List.Mem.head _ | apply List.Mem.tail)) rfl ?_
  refine wp_callV H (sizedM_ok (a := a) (n := n) (r := r)) fun S2 H => ?_
  by_cases h : mailP a n r
  · rw [decide_eq_true h]
    have h0 := h
    repeat' (first | (first|refine zA ?_|refine zB rfl ?_|refine zC ?_|refine zD ?_|refine zE rfl ?_|refine zF ?_|refine zG ?_|refine zH ?_|refine zI ?_|refine zJ ?_|refine zK ?_|refine zL rfl ?_|refine zN rfl ?_) | refine wp_bind ?_ | refine wp_box (by assumption) rfl fun _ _ _ => ?_ | refine wp_tmpN (by assumption) rfl rfl rfl fun _ _ _ => ?_ | refine wp_ld (by assumption) (by repeat (first | exact List.Mem.head _ | apply List.Mem.tail)) rfl ?_ | refine wp_ldn (by assumption) (by repeat (first | exact List.Mem.head _ | apply List.Mem.tail)) rfl ?_ | refine wp_notT ?_ | refine wp_notF ?_ | (refine wp_ret ?_; show wp EM _ _ _) | refine wp_lss (fun _ => ?_) (fun _ => ?_) | refine wp_gtr (fun _ => ?_) (fun _ => ?_) | refine wp_leq (fun _ => ?_) (fun _ => ?_) | refine wp_geq (fun _ => ?_) (fun _ => ?_) | refine wp_eql (fun _ => ?_) (fun _ => ?_) | refine wp_neq (fun _ => ?_) (fun _ => ?_) | refine wp_add64 (by omega) (by omega) ?_ | refine wp_sub64 (by omega) (by omega) ?_)
    all_goals first
      | exact wp_ret ⟨rfl, (congrArg B (decide_eq_true (p := mailQ a n r) ⟨h0, by omega, by omega⟩)).symm, Cx.grows (by assumption)⟩
      | exact wp_ret ⟨rfl, (congrArg B (decide_eq_false (p := mailQ a n r) (fun q => by have := q.2; omega))).symm, Cx.grows (by assumption)⟩
  · rw [decide_eq_false h, decide_eq_false (p := mailQ a n r) (fun q => h q.1)]
    repeat (first|refine zA ?_|refine zB rfl ?_|refine zC ?_|refine zD ?_|refine zE rfl ?_|refine zF ?_|refine zG ?_|refine zH ?_|refine zI ?_|refine zJ ?_|refine zK ?_|refine zL rfl ?_|refine zN rfl ?_)
    exact wp_ret ⟨rfl, rfl, H.grows⟩
theorem rightM_ok {S : AH} {a n r : Int} : wpC EM (.fn (.func 94) [] []) [.agg [I a, I n, I r]] S fun r' S' => r' = B (decide (mailP a n r)) ∧ Grows S S' := by
  refine wpC_fn (b := Tryz.a94) rfl rfl ?_
  have H : Cx S [] S [] [] := Cx.enter (by simp)
  unfold mailP Tryz.a94 Tryz.a94x1 Tryz.a94x0
  repeat' (first | (first|refine zA ?_|refine zB rfl ?_|refine zC ?_|refine zD ?_|refine zE rfl ?_|refine zF ?_|refine zG ?_|refine zH ?_|refine zI ?_|refine zJ ?_|refine zK ?_|refine zL rfl ?_|refine zN rfl ?_) | refine wp_bind ?_ | refine wp_box (by assumption) rfl fun _ _ _ => ?_ | refine wp_tmpN (by assumption) rfl rfl rfl fun _ _ _ => ?_ | refine wp_ld (by assumption) (by repeat (first | exact List.Mem.head _ | apply List.Mem.tail)) rfl ?_ | refine wp_ldn (by assumption) (by repeat (first | exact List.Mem.head _ | apply List.Mem.tail)) rfl ?_ | refine wp_notT ?_ | refine wp_notF ?_ | (refine wp_ret ?_; show wp EM _ _ _) | refine wp_lss (fun _ => ?_) (fun _ => ?_) | refine wp_gtr (fun _ => ?_) (fun _ => ?_) | refine wp_leq (fun _ => ?_) (fun _ => ?_) | refine wp_geq (fun _ => ?_) (fun _ => ?_) | refine wp_eql (fun _ => ?_) (fun _ => ?_) | refine wp_neq (fun _ => ?_) (fun _ => ?_) | refine wp_add64 (by omega) (by omega) ?_ | refine wp_sub64 (by omega) (by omega) ?_)
  all_goals (first | exact wp_ret ⟨rfl, (congrArg B (decide_eq_true (by omega))).symm, Cx.grows (by assumption)⟩ | exact wp_ret ⟨rfl, (congrArg B (decide_eq_false (by omega))).symm, Cx.grows (by assumption)⟩)
theorem soundM_ok {S : AH} {a n r : Int} : wpC EM (.fn (.func 194) [] []) [.agg [I a, I n, I r]] S fun r' S' => r' = B (decide (mailQ a n r)) ∧ Grows S S' := by
  refine wpC_fn (b := Tryz.a194) rfl rfl ?_
  have H : Cx S [] S [] [] := Cx.enter (by simp)
  unfold Tryz.a194 Tryz.a194x0
  refine wp_box H rfl fun p S1 H => ?_
  refine wp_ldn H (by repeat (first | exact List.Mem.head _ | apply List.Mem.tail)) rfl ?_
  refine wp_callV H (rightM_ok (a := a) (n := n) (r := r)) fun S2 H => ?_
  by_cases h : mailP a n r
  · rw [decide_eq_true h]
    have h0 := h
    repeat' (first | (first|refine zA ?_|refine zB rfl ?_|refine zC ?_|refine zD ?_|refine zE rfl ?_|refine zF ?_|refine zG ?_|refine zH ?_|refine zI ?_|refine zJ ?_|refine zK ?_|refine zL rfl ?_|refine zN rfl ?_) | refine wp_bind ?_ | refine wp_box (by assumption) rfl fun _ _ _ => ?_ | refine wp_tmpN (by assumption) rfl rfl rfl fun _ _ _ => ?_ | refine wp_ld (by assumption) (by repeat (first | exact List.Mem.head _ | apply List.Mem.tail)) rfl ?_ | refine wp_ldn (by assumption) (by repeat (first | exact List.Mem.head _ | apply List.Mem.tail)) rfl ?_ | refine wp_notT ?_ | refine wp_notF ?_ | (refine wp_ret ?_; show wp EM _ _ _) | refine wp_lss (fun _ => ?_) (fun _ => ?_) | refine wp_gtr (fun _ => ?_) (fun _ => ?_) | refine wp_leq (fun _ => ?_) (fun _ => ?_) | refine wp_geq (fun _ => ?_) (fun _ => ?_) | refine wp_eql (fun _ => ?_) (fun _ => ?_) | refine wp_neq (fun _ => ?_) (fun _ => ?_) | refine wp_add64 (by omega) (by omega) ?_ | refine wp_sub64 (by omega) (by omega) ?_)
    all_goals first
      | exact wp_ret ⟨rfl, (congrArg B (decide_eq_true (p := mailQ a n r) ⟨h0, by omega, by omega⟩)).symm, Cx.grows (by assumption)⟩
      | exact wp_ret ⟨rfl, (congrArg B (decide_eq_false (p := mailQ a n r) (fun q => by have := q.2; omega))).symm, Cx.grows (by assumption)⟩
  · rw [decide_eq_false h, decide_eq_false (p := mailQ a n r) (fun q => h q.1)]
    repeat (first|refine zA ?_|refine zB rfl ?_|refine zC ?_|refine zD ?_|refine zE rfl ?_|refine zF ?_|refine zG ?_|refine zH ?_|refine zI ?_|refine zJ ?_|refine zK ?_|refine zL rfl ?_|refine zN rfl ?_)
    exact wp_ret ⟨rfl, rfl, H.grows⟩
/-- where the ring of a mailbox lies -/
def ringAt (a r c : Int) : Int := a + c * (r + 2)
def ringCs (a r c : Int) : List AV := [I (ringAt a r c), I (ringAt a r c + 1), I (ringAt a r c + 2), I r]
theorem ringAt_bd {a n r c : Int} (h : mailQ a n r) (h0 : 0 ≤ c) (h1 : c < n) : 0 ≤ c * (r + 2) ∧ c * (r + 2) ≤ 1152 ∧ 0 ≤ ringAt a r c ∧ ringAt a r c ≤ 5247 := by
  unfold mailQ mailP at h
  have := mul_bd (a := c) (b := r + 2) (A := 64) (C := 18) (by omega) (by omega) (by omega) (by omega)
  unfold ringAt; omega
theorem rbox_ok {S : AH} {a n r c : Int} (h : mailQ a n r) (h0 : 0 ≤ c) (h1 : c < n) : wpC EM (.fn (.func 115) [] []) [.agg [I a, I n, I r], I c] S fun r' S' => r' = .tup [.agg (ringCs a r c), B true] ∧ Grows S S' := by
  refine wpC_fn (b := Tryz.a115) rfl rfl ?_
  have H : Cx S [] S [] [] := Cx.enter (by simp)
  obtain ⟨m1, m2, m3, m4⟩ := ringAt_bd h h0 h1
  have hq := h
  unfold mailQ mailP at h
  unfold Tryz.a115 Tryz.a115x3 Tryz.a115x2 Tryz.a115x1 Tryz.a115x0
  refine wp_fin ?_
  refine wp_box H rfl fun p S1 H => ?_
  refine wp_alloc H fun q S2 H => ?_
  refine wp_ldn H (by repeat (first | exact List.Mem.head _ | apply List.Mem.tail)) rfl ?_
  refine wp_callV H (soundM_ok (a := a) (n := n) (r := r)) fun S3 H => ?_
  rw [decide_eq_true hq]
  refine wp_notT ?_
  repeat (first|refine zA ?_|refine zB rfl ?_|refine zC ?_|refine zD ?_|refine zE rfl ?_|refine zF ?_|refine zG ?_|refine zH ?_|refine zI ?_|refine zJ ?_|refine zK ?_|refine zL rfl ?_|refine zN rfl ?_)
  refine wp_lss_f h0 ?_
  repeat (first|refine zA ?_|refine zB rfl ?_|refine zC ?_|refine zD ?_|refine zE rfl ?_|refine zF ?_|refine zG ?_|refine zH ?_|refine zI ?_|refine zJ ?_|refine zK ?_|refine zL rfl ?_|refine zN rfl ?_)
  refine wp_ld H (by repeat (first | exact List.Mem.head _ | apply List.Mem.tail)) rfl ?_
  repeat (first|refine zA ?_|refine zB rfl ?_|refine zC ?_|refine zD ?_|refine zE rfl ?_|refine zF ?_|refine zG ?_|refine zH ?_|refine zI ?_|refine zJ ?_|refine zK ?_|refine zL rfl ?_|refine zN rfl ?_)
  refine wp_geq_f h1 ?_
  repeat (first|refine zA ?_|refine zB rfl ?_|refine zC ?_|refine zD ?_|refine zE rfl ?_|refine zF ?_|refine zG ?_|refine zH ?_|refine zI ?_|refine zJ ?_|refine zK ?_|refine zL rfl ?_|refine zN rfl ?_)
  refine wp_ldn H (by repeat (first | exact List.Mem.head _ | apply List.Mem.tail)) rfl ?_
  have hr : wpC EM (.fn (.func 195) [] []) [.agg [I a, I n, I r], I c] S3 fun r' S' => r' = .agg (ringCs a r c) ∧ Grows S3 S' := by
    refine wpC_fn (b := Tryz.a195) rfl rfl ?_
    clear H
    have H : Cx S3 [] S3 [] [] := Cx.enter (by simp)
    unfold Tryz.a195 Tryz.a195x1 Tryz.a195x0
    refine wp_fin ?_
    refine wp_box H rfl fun p S1 H => ?_
    refine wp_alloc H fun q S2 H => ?_
    repeat (first|refine zA ?_|refine zB rfl ?_|refine zC ?_|refine zD ?_|refine zE rfl ?_|refine zF ?_|refine zG ?_|refine zH ?_|refine zI ?_|refine zJ ?_|refine zK ?_|refine zL rfl ?_|refine zN rfl ?_)
    refine wp_ld H (by repeat (first | exact List.Mem.head _ | apply List.Mem.tail)) rfl ?_
    repeat (first|refine zA ?_|refine zB rfl ?_|refine zC ?_|refine zD ?_|refine zE rfl ?_|refine zF ?_|refine zG ?_|refine zH ?_|refine zI ?_|refine zJ ?_|refine zK ?_|refine zL rfl ?_|refine zN rfl ?_)
    refine wp_ld H (by repeat (first | exact List.Mem.head _ | apply List.Mem.tail)) rfl ?_
    refine wp_add64 (by omega) (by omega) ?_
    refine wp_mul64 (by omega) (by omega) ?_
    refine wp_add64 (by omega) (by omega) ?_
    have e : a + c * (r + 2) = ringAt a r c := rfl
    rw [e]
    refine wp_add64 (by omega) (by omega) ?_
    refine wp_add64 (by omega) (by omega) ?_
    repeat (first|refine zA ?_|refine zB rfl ?_|refine zC ?_|refine zD ?_|refine zE rfl ?_|refine zF ?_|refine zG ?_|refine zH ?_|refine zI ?_|refine zJ ?_|refine zK ?_|refine zL rfl ?_|refine zN rfl ?_)
    refine wp_ld H (by repeat (first | exact List.Mem.head _ | apply List.Mem.tail)) rfl ?_
    refine wp_op (v := .agg (ringCs a r c)) rfl ?_
    refine wp_store (n := 4) H 0 (c := [I 0, I 0, I 0, I 0]) rfl rfl rfl (by simp) fun S4 H => ?_
    have H : Cx S3 [] S4 [.obj q (.row (ringCs a r c))] [.pt p 0 [I a, I n, I r]] := H
    refine wp_ret ⟨.inr rfl, ?_⟩
    refine wp_loadoa (n := 4) H 0 rfl (by simp [ringCs]) ?_
    exact wp_ret ⟨rfl, rfl, H.grows⟩
  refine wp_callV H hr fun S4 H => ?_
  refine wp_store (n := 4) H 0 (c := [I 0, I 0, I 0, I 0]) rfl rfl rfl (by simp) fun S5 H => ?_
  have H : Cx S [] S5 [.obj q (.row (ringCs a r c))] [.pt p 0 [I a, I n, I r]] := H
  refine wp_ret ⟨.inr rfl, ?_⟩
  refine wp_loadoa (n := 4) H 0 rfl (by simp [ringCs]) ?_
  exact wp_ret ⟨rfl, rfl, H.grows⟩
theorem boxM_ok {S : AH} {a n r c : Int} (h : mailQ a n r) (h0 : 0 ≤ c) (h1 : c < n) : wpC EM (.fn (.func 140) [] []) [.agg [I a, I n, I r], I c] S fun r' S' => r' = .tup [.agg (ringCs a r c), B true] ∧ Grows S S' := by
  refine wpC_fn (b := Tryz.a140) rfl rfl ?_
  have H : Cx S [] S [] [] := Cx.enter (by simp)
  have hq := h
  obtain ⟨cn, rfl⟩ : ∃ k : Nat, c = (k : Int) := ⟨c.toNat, by omega⟩
  unfold mailQ mailP at h
  unfold Tryz.a140 Tryz.a140x6 Tryz.a140x5 Tryz.a140x4 Tryz.a140x3 Tryz.a140x2 Tryz.a140x1 Tryz.a140x0
  refine wp_fin ?_
  refine wp_box H rfl fun p S1 H => ?_
  refine wp_box H rfl fun pc S1 H => ?_
  refine wp_alloc H fun q S2 H => ?_
  refine wp_alloc H fun t S2 H => ?_
  refine wp_ldn H (by repeat (first | exact List.Mem.head _ | apply List.Mem.tail)) rfl ?_
  refine wp_callV H (placedM_ok (a := a) (n := n) (r := r)) fun S3 H => ?_
  rw [decide_eq_true hq]
  refine wp_notT ?_
  repeat (first|refine zA ?_|refine zB rfl ?_|refine zC ?_|refine zD ?_|refine zE rfl ?_|refine zF ?_|refine zG ?_|refine zH ?_|refine zI ?_|refine zJ ?_|refine zK ?_|refine zL rfl ?_|refine zN rfl ?_)
  refine wp_ldn H (by repeat (first | exact List.Mem.head _ | apply List.Mem.tail)) rfl ?_
  refine wp_call (wpC_fn (b := Tryz.a92) rfl rfl ?_)
  unfold Tryz.a92
  refine wp_box H rfl fun pm S4 H => ?_
  refine wp_ret ⟨rfl, ?_⟩
  show wp EM _ _ _
  refine wp_bind (wp_rngX (Done := fun pd S' => pd = some .ret ∧ ∃ ro', Cx S [] S' [.obj t (.row [B true]), .obj q (.row (ringCs a r cn))] ro') H (by intro i e; cases e) ?_ ?_ ?_)
  · intro l S5 H
    refine wpC_fn (b := Tryz.a147) rfl rfl ?_
    unfold Tryz.a147 Tryz.a147x4 Tryz.a147x3 Tryz.a147x2 Tryz.a147x1 Tryz.a147x0
    repeat (first|refine zA ?_|refine zB rfl ?_|refine zC ?_|refine zD ?_|refine zE rfl ?_|refine zF ?_|refine zG ?_|refine zH ?_|refine zI ?_|refine zJ ?_|refine zK ?_|refine zL rfl ?_|refine zN rfl ?_)
    refine wp_ld H (by repeat (first | exact List.Mem.head _ | apply List.Mem.tail)) rfl ?_
    have HL := H
    clear H
    have hyd : ∀ (i : Nat) S6 (ro' : List Fct), i ≤ cn → Fct.pt pc 0 [I (cn : Int)] ∈ ro' → Cx S [] S6 [.obj l (.loop .ready none 2 fun v10 => Tryz.a140x3 (.ptr pc 0) (.ptr q 0) (.ptr t 0) v10), .obj t (.row [B false]), .obj q (.row [I 0, I 0, I 0, I 0])] ro' →
        wpC EM (.yd l) [I (i : Int), .agg (ringCs a r i)] S6 fun v S' => (i < cn ∧ v = B true ∧ Cx S [] S' [.obj l (.loop .ready none 2 fun v10 => Tryz.a140x3 (.ptr pc 0) (.ptr q 0) (.ptr t 0) v10), .obj t (.row [B false]), .obj q (.row [I 0, I 0, I 0, I 0])] ro') ∨ (i = cn ∧ v = B false ∧ Cx S [] S' [.obj l (.loop .done (some .ret) 2 fun v10 => Tryz.a140x3 (.ptr pc 0) (.ptr q 0) (.ptr t 0) v10), .obj t (.row [B true]), .obj q (.row (ringCs a r cn))] ro') := by
      intro i S6 ro' hi hpc H
      refine wpC_ydX H 0 rfl rfl ?_
      unfold Tryz.a140x3 Tryz.a140x2 Tryz.a140x1
      refine wp_alloc H fun z S7 H => ?_
      refine wp_store (n := 4) H 0 (c := [I 0, I 0, I 0, I 0]) rfl rfl rfl (by simp) fun S8 H => ?_
      have H : Cx S [] S8 [.obj z (.row (ringCs a r i)), .obj l (.loop .ready none 2 fun v10 => Tryz.a140x3 (.ptr pc 0) (.ptr q 0) (.ptr t 0) v10), .obj t (.row [B false]), .obj q (.row [I 0, I 0, I 0, I 0])] ro' := H
      refine wp_startO H 1 rfl fun S9 H => ?_
      refine wp_bind ?_
      refine wp_ld H hpc rfl ?_
      by_cases e : i = cn
      · refine wp_eql_t (by omega) ?_
        repeat (first|refine zA ?_|refine zB rfl ?_|refine zC ?_|refine zD ?_|refine zE rfl ?_|refine zF ?_|refine zG ?_|refine zH ?_|refine zI ?_|refine zJ ?_|refine zK ?_|refine zL rfl ?_|refine zN rfl ?_)
        refine wp_loadoa (n := 4) H 0 rfl (by simp [ringCs]) ?_
        refine wp_store (n := 4) H 3 (c := [I 0, I 0, I 0, I 0]) rfl rfl rfl (by simp) fun S10 H => ?_
        refine wp_store (n := 1) H 2 (c := [B false]) rfl rfl rfl (by simp) fun S11 H => ?_
        refine wp_ret ⟨_, _, H.dropAt 0, rfl, .inr ⟨by simp, fun S2 H => .inr ⟨e, rfl, ?_⟩⟩⟩
        rw [← e]
        exact H
      · refine wp_eql_f (by omega) ?_
        repeat (first|refine zA ?_|refine zB rfl ?_|refine zC ?_|refine zD ?_|refine zE rfl ?_|refine zF ?_|refine zG ?_|refine zH ?_|refine zI ?_|refine zJ ?_|refine zK ?_|refine zL rfl ?_|refine zN rfl ?_)
        refine wp_ret ?_
        show wp EM _ _ _
        refine wp_ret ⟨_, _, H.dropAt 0, rfl, .inl ⟨rfl, fun S2 H => .inl ⟨by omega, rfl, H⟩⟩⟩
    have bd := fun (i : Nat) (hi : i ≤ cn) => ringAt_bd (c := (i : Int)) hq (by omega) (by omega)
    refine wp_bind (wp_loop (wpL_for cn (fun i vs S' => vs = [I (i : Int)] ∧ Cx S [] S' [.obj l (.loop .ready none 2 fun v10 => Tryz.a140x3 (.ptr pc 0) (.ptr q 0) (.ptr t 0) v10), .obj t (.row [B false]), .obj q (.row [I 0, I 0, I 0, I 0])] _) ?_ ?_ ⟨rfl, HL⟩))
    · rintro i vs S6 hi ⟨rfl, H⟩
      obtain ⟨m1, m2, m3, m4⟩ := bd i (by omega)
      refine wp_lss_t (by omega) ?_
      repeat (first|refine zA ?_|refine zB rfl ?_|refine zC ?_|refine zD ?_|refine zE rfl ?_|refine zF ?_|refine zG ?_|refine zH ?_|refine zI ?_|refine zJ ?_|refine zK ?_|refine zL rfl ?_|refine zN rfl ?_)
      refine wp_bind ?_
      repeat (first|refine zA ?_|refine zB rfl ?_|refine zC ?_|refine zD ?_|refine zE rfl ?_|refine zF ?_|refine zG ?_|refine zH ?_|refine zI ?_|refine zJ ?_|refine zK ?_|refine zL rfl ?_|refine zN rfl ?_)
      refine wp_ld H (by repeat (first | exact List.Mem.head _ | apply List.Mem.tail)) rfl ?_
      repeat (first|refine zA ?_|refine zB rfl ?_|refine zC ?_|refine zD ?_|refine zE rfl ?_|refine zF ?_|refine zG ?_|refine zH ?_|refine zI ?_|refine zJ ?_|refine zK ?_|refine zL rfl ?_|refine zN rfl ?_)
      refine wp_ld H (by repeat (first | exact List.Mem.head _ | apply List.Mem.tail)) rfl ?_
      refine wp_add64 (by omega) (by omega) ?_
      refine wp_mul64 (by omega) (by omega) ?_
      refine wp_add64 (by omega) (by omega) ?_
      have e : a + (i : Int) * (r + 2) = ringAt a r i := rfl
      rw [e]
      refine wp_add64 (by omega) (by omega) ?_
      refine wp_add64 (by omega) (by omega) ?_
      repeat (first|refine zA ?_|refine zB rfl ?_|refine zC ?_|refine zD ?_|refine zE rfl ?_|refine zF ?_|refine zG ?_|refine zH ?_|refine zI ?_|refine zJ ?_|refine zK ?_|refine zL rfl ?_|refine zN rfl ?_)
      refine wp_ld H (by repeat (first | exact List.Mem.head _ | apply List.Mem.tail)) rfl ?_
      refine wp_op (v := .agg (ringCs a r i)) rfl ?_
      refine wp_call (wpC_mono (hyd i S6 _ (by omega) (by repeat (first | exact List.Mem.head _ | apply List.Mem.tail)) H) fun v S7 q => ?_)
      rcases q with ⟨_, rfl, H⟩ | ⟨e, _⟩
      · refine wp_notT ?_
        repeat (first|refine zA ?_|refine zB rfl ?_|refine zC ?_|refine zD ?_|refine zE rfl ?_|refine zF ?_|refine zG ?_|refine zH ?_|refine zI ?_|refine zJ ?_|refine zK ?_|refine zL rfl ?_|refine zN rfl ?_)
        refine wp_ret ?_
        show wp EM _ _ _
        refine wp_add64 (by omega) (by omega) ?_
        exact wp_ret (.inl ⟨rfl, rfl, H⟩)
      · omega
    · rintro vs S6 ⟨rfl, H⟩
      obtain ⟨m1, m2, m3, m4⟩ := bd cn (by omega)
      refine wp_lss_t (by omega) ?_
      repeat (first|refine zA ?_|refine zB rfl ?_|refine zC ?_|refine zD ?_|refine zE rfl ?_|refine zF ?_|refine zG ?_|refine zH ?_|refine zI ?_|refine zJ ?_|refine zK ?_|refine zL rfl ?_|refine zN rfl ?_)
      refine wp_bind ?_
      repeat (first|refine zA ?_|refine zB rfl ?_|refine zC ?_|refine zD ?_|refine zE rfl ?_|refine zF ?_|refine zG ?_|refine zH ?_|refine zI ?_|refine zJ ?_|refine zK ?_|refine zL rfl ?_|refine zN rfl ?_)
      refine wp_ld H (by repeat (first | exact List.Mem.head _ | apply List.Mem.tail)) rfl ?_
      repeat (first|refine zA ?_|refine zB rfl ?_|refine zC ?_|refine zD ?_|refine zE rfl ?_|refine zF ?_|refine zG ?_|refine zH ?_|refine zI ?_|refine zJ ?_|refine zK ?_|refine zL rfl ?_|refine zN rfl ?_)
      refine wp_ld H (by repeat (first | exact List.Mem.head _ | apply List.Mem.tail)) rfl ?_
      refine wp_add64 (by omega) (by omega) ?_
      refine wp_mul64 (by omega) (by omega) ?_
      refine wp_add64 (by omega) (by omega) ?_
      have e : a + (cn : Int) * (r + 2) = ringAt a r cn := rfl
      rw [e]
      refine wp_add64 (by omega) (by omega) ?_
      refine wp_add64 (by omega) (by omega) ?_
      repeat (first|refine zA ?_|refine zB rfl ?_|refine zC ?_|refine zD ?_|refine zE rfl ?_|refine zF ?_|refine zG ?_|refine zH ?_|refine zI ?_|refine zJ ?_|refine zK ?_|refine zL rfl ?_|refine zN rfl ?_)
      refine wp_ld H (by repeat (first | exact List.Mem.head _ | apply List.Mem.tail)) rfl ?_
      refine wp_op (v := .agg (ringCs a r cn)) rfl ?_
      refine wp_call (wpC_mono (hyd cn S6 _ (by omega) (by repeat (first | exact List.Mem.head _ | apply List.Mem.tail)) H) fun v S7 q => ?_)
      rcases q with ⟨e, _⟩ | ⟨_, rfl, H⟩
      · omega
      · refine wp_notF ?_
        repeat (first|refine zA ?_|refine zB rfl ?_|refine zC ?_|refine zD ?_|refine zE rfl ?_|refine zF ?_|refine zG ?_|refine zH ?_|refine zI ?_|refine zJ ?_|refine zK ?_|refine zL rfl ?_|refine zN rfl ?_)
        refine wp_ret ⟨by simp, rfl, .done, some .ret, 2, _, H.oh _ (List.Mem.head _), by simp, fun S2 g1 g2 => ⟨rfl, _, H.other (n := 0) rfl g1 g2⟩⟩
  · rintro S5 ⟨e, _⟩; cases e
  · rintro tg S5 ⟨e, ro', H⟩
    cases e
    refine ⟨.inr rfl, ?_⟩
    refine wp_loadoa (n := 4) H 1 rfl (by simp [ringCs]) ?_
    refine wp_row (j := 0) H 0 rfl rfl ?_
    exact wp_ret ⟨rfl, rfl, H.grows⟩
end Go.Abs
namespace Go.Abs
open Go.Proofs
set_option maxRecDepth 100000
set_option linter.unusedVariables false
/-! ### memories -/
def uints (l : List Int) : List (List AV) := l.map fun n => [U n]
theorem uints_len (l : List Int) : (uints l).length = l.length := List.length_map ..
theorem uints_get? {l : List Int} {i : Nat} {n : Int} (h : l[i]? = some n) : (uints l)[i]? = some [U n] := by unfold uints; rw [List.getElem?_map, h]; rfl
theorem uints_set (l : List Int) (i : Nat) (n : Int) : (uints l).set i [U n] = uints (l.set i n) := by unfold uints; rw [List.map_set]
structure Me where
  ws : List Int
  kind : Int
  at' : Int
  old : Int
  new : Int
  held : Bool
  n : Int
def Me.last (x : Me) : List AV := [I x.kind, I x.at', U x.old, U x.new, B x.held]
def Me.prow (x : Me) (bl : Nat) : List AV := .ptr bl 0 :: I x.ws.length :: (x.last ++ [I x.n])
def Me.rrow (x : Me) (v : AV) : List AV := v :: (x.last ++ [I x.n])
def Me.has (x : Me) (a : Int) : Prop := 0 ≤ a ∧ a < x.ws.length
instance (x : Me) (a : Int) : Decidable (x.has a) := inferInstanceAs (Decidable (_ ∧ _))

def Me.word (x : Me) (a : Int) : Int := if x.has a then x.ws[a.toNat]?.getD 0 else 0
/-- an access: what is there then, and whether it is written -/
def Me.acc (x : Me) (kind a w : Int) (held : Bool) : Me := if x.has a then ⟨x.ws.set a.toNat w, kind, a, x.word a, w, held, x.n + 1⟩ else ⟨x.ws, kind, a, 0, 0, false, x.n + 1⟩
def pMem (m bl : Nat) (x : Me) (rest : List AV) : List Own := [.obj m (.row (x.prow bl)), .obj bl (.row (x.ws.map U ++ rest))]
def rMem (w : Nat) (v : AV) (x : Me) : List Own := [.obj w (.row (x.rrow v)), .sl v 1 (uints x.ws)]
def Me.wf (x : Me) : Prop := 1 ≤ x.ws.length ∧ x.ws.length ≤ 4096 ∧ 0 ≤ x.n ∧ x.n ≤ 1152921504606846976
theorem Me.word_eq {x : Me} {a : Nat} {w : Int} (h : x.ws[a]? = some w) : x.word (a : Int) = w := by
  have := (List.getElem?_eq_some_iff.1 h).1
  unfold Me.word
  rw [if_pos (show x.has a from ⟨by omega, by omega⟩), Int.toNat_natCast, h]; rfl
theorem slOk_odd1 {S : AH} {v : AV} {es : Nat} {L : List (List AV)} (h : slOk S v es L) : odd v = false ∧ v.cells = [v] := by
  rcases h with ⟨rfl, _⟩ | ⟨id, off, c, h0, _⟩
  · exact ⟨rfl, rfl⟩
  · rcases h0 with ⟨_, _, _, rfl⟩ | ⟨_, _, _, rfl⟩ <;> exact ⟨rfl, rfl⟩
section
variable {B0 S : AH} {W : List Nat} {own R : List Own} {ro : List Fct} {Q : Post} {k : AV → AC} {v : AV} {m bl w : Nat} {x : Me} {rest : List AV}
theorem wp_paddr {M : Mach} {len es id o i : Nat} (hi : i < len) (h : wp M (k (.ptr id (o + i * es))) S Q) : wp M (.op (.paddr len es (.ptr id o) (I (i : Int))) k) S Q := by
  refine wp_op (v := .ptr id (o + i * es)) ?_ h
  have h3 : idx? (I (i : Int)) len = some i := by
    show below i len = some i
    unfold below; rw [ble_t (by omega)]
  show pur (pPaddr len es (.ptr id o) (I (i : Int))) S = _
  unfold pPaddr
  simp only [h3]
  rfl
theorem wp_mkslice1 {M : Mach} {z : AV} {bytes n : Nat} (H : Cx B0 W S own ro) (hb : bytes * n ≤ 140737488355328) (hn : n ≤ 9223372036854775807)
    (h : ∀ t S1, Cx B0 W S1 (.sl t 1 (List.replicate n [z]) :: own) ro → wp M (k t) S1 Q) : wp M (.op (.mkslice 1 bytes [z] (I (n : Int)) (I (n : Int))) k) S Q := by
  have hz : ∀ m : Nat, repZero [z] m = List.replicate m z := by
    intro m
    induction m with
    | zero => rfl
    | succ m ih =>
      show appL [z] (repZero [z] m) = _
      rw [ih, appL_eq]; rfl
  have hnat : nat? (n : Int) = some n := by
    unfold nat?
    rfl
  refine wp_op (v := .sl S.next 0 n n) (S1 := S.new (.row (List.replicate n z))) ?_ (h _ _ (H.addOwn (Grows.new S _) (.inr ⟨S.next, 0, List.replicate n z, .inl ⟨n, by simp, by simp, by simp⟩, get_new_same _ _, ?_, ?_⟩) ?_))
  · show nMkslice 1 bytes [z] (I (n : Int)) (I (n : Int)) S = _
    unfold nMkslice
    simp only [asInt, vInt, hnat]
    have e : (Nat.ble n n && Nat.ble (Nat.mul bytes n) 140737488355328 && Nat.ble n 9223372036854775807 && Nat.beq (lenL [z]) 1) = true := by
      have hb' : Nat.ble (Nat.mul bytes n) 140737488355328 = true := ble_t hb
      rw [ble_t (Nat.le_refl n), hb', ble_t hn]; rfl
    rw [e, hz]
    rfl
  · have : ∀ m : Nat, (List.replicate m [z]).flatten = List.replicate m z := by
      intro m
      induction m with
      | zero => rfl
      | succ m ih => rw [List.replicate_succ, List.flatten_cons, ih]; rfl
    rw [this]; simp
  · intro x hx
    rw [(List.mem_replicate.1 hx).2]; rfl
  · intro j hj
    simp only [Own.ids, vids, List.mem_singleton] at hj
    subst hj
    simp
/-! ### the program's -/
theorem cell_ok' {a : Int} (hx : x.wf) (H : Cx B0 W S (pMem m bl x rest ++ R) ro) : wpC EM (.fn (.func 32) [] []) [.ptr m 0, I a] S fun r S' => r = (if x.has a then .ptr bl a.toNat else Np) ∧ S' = S := by
  refine wpC_fn (b := Tryz.a32) rfl rfl ?_
  unfold Tryz.a32 Tryz.a32x2 Tryz.a32x1 Tryz.a32x0
  unfold Me.wf at hx
  refine wp_op (e_ptrNil (by kernel_rfl)) ?_
  repeat (first|refine zA ?_|refine zB rfl ?_|refine zC ?_|refine zD ?_|refine zE rfl ?_|refine zF ?_|refine zG ?_|refine zH ?_|refine zI ?_|refine zJ ?_|refine zK ?_|refine zL rfl ?_|refine zN rfl ?_)
  refine wp_row (j := 0) H 0 rfl rfl ?_
  repeat (first|refine zA ?_|refine zB rfl ?_|refine zC ?_|refine zD ?_|refine zE rfl ?_|refine zF ?_|refine zG ?_|refine zH ?_|refine zI ?_|refine zJ ?_|refine zK ?_|refine zL rfl ?_|refine zN rfl ?_)
  refine wp_op (e_ptrNil (by kernel_rfl)) ?_
  repeat (first|refine zA ?_|refine zB rfl ?_|refine zC ?_|refine zD ?_|refine zE rfl ?_|refine zF ?_|refine zG ?_|refine zH ?_|refine zI ?_|refine zJ ?_|refine zK ?_|refine zL rfl ?_|refine zN rfl ?_)
  refine wp_lss (fun h0 => ?_) (fun h0 => ?_)
  · repeat (first|refine zA ?_|refine zB rfl ?_|refine zC ?_|refine zD ?_|refine zE rfl ?_|refine zF ?_|refine zG ?_|refine zH ?_|refine zI ?_|refine zJ ?_|refine zK ?_|refine zL rfl ?_|refine zN rfl ?_)
    exact wp_ret ⟨rfl, by rw [if_neg (fun h => by have := h.1; omega)]; rfl, rfl⟩
  repeat (first|refine zA ?_|refine zB rfl ?_|refine zC ?_|refine zD ?_|refine zE rfl ?_|refine zF ?_|refine zG ?_|refine zH ?_|refine zI ?_|refine zJ ?_|refine zK ?_|refine zL rfl ?_|refine zN rfl ?_)
  refine wp_row (j := 1) H 0 rfl rfl ?_
  repeat (first|refine zA ?_|refine zB rfl ?_|refine zC ?_|refine zD ?_|refine zE rfl ?_|refine zF ?_|refine zG ?_|refine zH ?_|refine zI ?_|refine zJ ?_|refine zK ?_|refine zL rfl ?_|refine zN rfl ?_)
  refine wp_geq (fun h1 => ?_) (fun h1 => ?_)
  · repeat (first|refine zA ?_|refine zB rfl ?_|refine zC ?_|refine zD ?_|refine zE rfl ?_|refine zF ?_|refine zG ?_|refine zH ?_|refine zI ?_|refine zJ ?_|refine zK ?_|refine zL rfl ?_|refine zN rfl ?_)
    exact wp_ret ⟨rfl, by rw [if_neg (fun h => by have := h.2; omega)]; rfl, rfl⟩
  repeat (first|refine zA ?_|refine zB rfl ?_|refine zC ?_|refine zD ?_|refine zE rfl ?_|refine zF ?_|refine zG ?_|refine zH ?_|refine zI ?_|refine zJ ?_|refine zK ?_|refine zL rfl ?_|refine zN rfl ?_)
  refine wp_row (j := 0) H 0 rfl rfl ?_
  repeat (first|refine zA ?_|refine zB rfl ?_|refine zC ?_|refine zD ?_|refine zE rfl ?_|refine zF ?_|refine zG ?_|refine zH ?_|refine zI ?_|refine zJ ?_|refine zK ?_|refine zL rfl ?_|refine zN rfl ?_)
  obtain ⟨n, rfl⟩ : ∃ n : Nat, a = (n : Int) := ⟨a.toNat, by omega⟩
  refine wp_paddr (i := n) (by omega) ?_
  refine wp_ret ⟨rfl, ?_, rfl⟩
  rw [if_pos ⟨by omega, by omega⟩]
  have e : 0 + n * 1 = n := by omega
  rw [e, Int.toNat_natCast]; rfl
theorem blk_get {a : Nat} {z : Int} (h : x.ws[a]? = some z) : (x.ws.map U ++ rest)[a]? = some (U z) := by
  have := (List.getElem?_eq_some_iff.1 h).1
  rw [List.getElem?_append_left (by simpa using this), List.getElem?_map, h]; rfl
theorem blk_set {a : Nat} {z : Int} (h : a < x.ws.length) : (x.ws.map U ++ rest).set a (U z) = (x.ws.set a z).map U ++ rest := by
  rw [List.set_append_left _ _ (by simpa using h), List.map_set]
theorem isPlace_N : wpC EM (.fn (.func 89) [] []) [Np] S fun r S' => r = B false ∧ S' = S := by
  refine wpC_fn (b := Tryz.a89) rfl rfl ?_
  unfold Tryz.a89
  refine wp_op (S1 := S) (v := B false) (by kernel_rfl) ?_
  exact wp_ret ⟨rfl, rfl, rfl⟩
theorem isPlace_p {id o : Nat} : wpC EM (.fn (.func 89) [] []) [.ptr id o] S fun r S' => r = B true ∧ S' = S := by
  refine wpC_fn (b := Tryz.a89) rfl rfl ?_
  unfold Tryz.a89
  refine wp_op (e_ptrNil (by kernel_rfl)) ?_
  exact wp_ret ⟨rfl, rfl, rfl⟩
def blk (x : Me) (rest : List AV) : List AV := x.ws.map U ++ rest
/-- an access, of whatever is done to a cell -/
theorem do_ok' {kind a z : Int} {held : Bool} {how : AV} (hx : x.wf) (H : Cx B0 W S (pMem m bl x rest ++ R) ro)
    (hhow : x.has a → ∀ {S1 : AH} {R1 : List Own}, Cx B0 W S1 (.obj bl (.row (blk x rest)) :: R1) ro → wpC EM how [] S1 fun r S' => r = .tup [U z, B held] ∧ Cx B0 W S' (.obj bl (.row (blk x rest)) :: R1) ro) :
    wpC EM (.fn (.func 33) [] []) [.ptr m 0, I kind, I a, (if x.has a then .ptr bl a.toNat else Np), how] S fun r S' => r = .agg (x.acc kind a z held).last ∧ Cx B0 W S' (pMem m bl (x.acc kind a z held) rest ++ R) ro := by
  refine wpC_fn (b := Tryz.a33) rfl rfl ?_
  unfold Tryz.a33 Tryz.a33x8 Tryz.a33x7 Tryz.a33x6 Tryz.a33x5 Tryz.a33x4 Tryz.a33x3 Tryz.a33x2 Tryz.a33x1 Tryz.a33x0
  unfold Me.wf at hx
  refine wp_fin ?_
  refine wp_alloc H fun q S1 H => ?_
  refine wp_op (e_ptrNil (by kernel_rfl)) ?_
  repeat (first|refine zA ?_|refine zB rfl ?_|refine zC ?_|refine zD ?_|refine zE rfl ?_|refine zF ?_|refine zG ?_|refine zH ?_|refine zI ?_|refine zJ ?_|refine zK ?_|refine zL rfl ?_|refine zN rfl ?_)
  refine wp_row (j := 0) H 1 rfl rfl ?_
  repeat (first|refine zA ?_|refine zB rfl ?_|refine zC ?_|refine zD ?_|refine zE rfl ?_|refine zF ?_|refine zG ?_|refine zH ?_|refine zI ?_|refine zJ ?_|refine zK ?_|refine zL rfl ?_|refine zN rfl ?_)
  refine wp_op (e_ptrNil (by kernel_rfl)) ?_
  repeat (first|refine zA ?_|refine zB rfl ?_|refine zC ?_|refine zD ?_|refine zE rfl ?_|refine zF ?_|refine zG ?_|refine zH ?_|refine zI ?_|refine zJ ?_|refine zK ?_|refine zL rfl ?_|refine zN rfl ?_)
  refine wp_row (j := 7) H 1 rfl rfl ?_
  refine wp_add64 (by omega) (by omega) ?_
  repeat (first|refine zA ?_|refine zB rfl ?_|refine zC ?_|refine zD ?_|refine zE rfl ?_|refine zF ?_|refine zG ?_|refine zH ?_|refine zI ?_|refine zJ ?_|refine zK ?_|refine zL rfl ?_|refine zN rfl ?_)
  refine wp_set1 (j := 7) H 1 rfl (by simp [Me.prow, Me.last]) ⟨rfl, rfl⟩ fun S2 H => ?_
  refine wp_op (v := .agg [I kind, I a, U 0, U 0, B false]) rfl ?_
  repeat (first|refine zA ?_|refine zB rfl ?_|refine zC ?_|refine zD ?_|refine zE rfl ?_|refine zF ?_|refine zG ?_|refine zH ?_|refine zI ?_|refine zJ ?_|refine zK ?_|refine zL rfl ?_|refine zN rfl ?_)
  refine wp_store (off := 2) (n := 5) H 1 rfl rfl rfl (Nat.le_of_ble_eq_true rfl) fun S3 H => ?_
  have H : Cx B0 W S3 (.obj q (.row [I 0, I 0, U 0, U 0, B false]) :: (pMem m bl ⟨x.ws, kind, a, 0, 0, false, x.n + 1⟩ rest ++ R)) ro := H
  have fin : ∀ {S4 : AH} {y : Me} , Cx B0 W S4 (.obj q (.row [I 0, I 0, U 0, U 0, B false]) :: (pMem m bl y rest ++ R)) ro → wp EM (.op (.nilchk (.ptr m 0)) fun v22 => .op (.faddr 2 v22) fun v23 => .op (.load 5 true v23) fun v24 => Tryz.a33x4 (.ptr q 0) v24) S4 fun t vs S' => (t = .normal ∨ t = .ret) ∧ wp EM (.op (.load 5 true (nth vs 0)) fun v2 => .ret .ret [v2]) S' fun t vs S' => t = .ret ∧ oneOf vs = .agg y.last ∧ Cx B0 W S' (pMem m bl y rest ++ R) ro := by
    intro S4 y H
    unfold Tryz.a33x4
    repeat (first|refine zA ?_|refine zB rfl ?_|refine zC ?_|refine zD ?_|refine zE rfl ?_|refine zF ?_|refine zG ?_|refine zH ?_|refine zI ?_|refine zJ ?_|refine zK ?_|refine zL rfl ?_|refine zN rfl ?_)
    refine wp_loadoa (off := 2) (n := 5) H 1 rfl (Nat.le_of_ble_eq_true rfl) ?_
    refine wp_store (n := 5) (v := .agg y.last) H 0 rfl rfl rfl (Nat.le_of_ble_eq_true rfl) fun S5 H => ?_
    have H : Cx B0 W S5 (.obj q (.row y.last) :: (pMem m bl y rest ++ R)) ro := H
    refine wp_ret ⟨.inr rfl, ?_⟩
    refine wp_loadoa (off := 0) (n := 5) H 0 rfl (Nat.le_of_ble_eq_true rfl) ?_
    exact wp_ret ⟨rfl, rfl, H.dropAt 0⟩
  unfold Tryz.a33x4 at fin
  by_cases hh : x.has a
  · rw [if_pos hh]
    have hacc : x.acc kind a z held = ⟨x.ws.set a.toNat z, kind, a, x.word a, z, held, x.n + 1⟩ := if_pos hh
    obtain ⟨n, rfl⟩ : ∃ n : Nat, a = (n : Int) := ⟨a.toNat, by have := hh.1; omega⟩
    have hn : n < x.ws.length := by have := hh.2; omega
    have hw : x.ws[n]? = some x.ws[n] := List.getElem?_eq_getElem hn
    generalize x.ws[n] = old at hw
    rw [hacc, Me.word_eq hw]
    rw [Int.toNat_natCast] at *
    refine wp_call (wpC_mono isPlace_p fun r S4 qq => ?_)
    obtain ⟨rfl, rfl⟩ := qq
    refine wp_bind ?_
    repeat (first|refine zA ?_|refine zB rfl ?_|refine zC ?_|refine zD ?_|refine zE rfl ?_|refine zF ?_|refine zG ?_|refine zH ?_|refine zI ?_|refine zJ ?_|refine zK ?_|refine zL rfl ?_|refine zN rfl ?_)
    have K := H.permS (own' := .obj bl (.row (blk x rest)) :: .obj q (.row [I 0, I 0, U 0, U 0, B false]) :: .obj m (.row (Me.prow ⟨x.ws, kind, n, 0, 0, false, x.n + 1⟩ bl)) :: R) (List.perm_middle (l₁ := [_, _]) (l₂ := R))
    refine wp_call (wpC_mono (hhow hh K) fun r S5 qq => ?_)
    obtain ⟨rfl, K⟩ := qq
    repeat (first|refine zA ?_|refine zB rfl ?_|refine zC ?_|refine zD ?_|refine zE rfl ?_|refine zF ?_|refine zG ?_|refine zH ?_|refine zI ?_|refine zJ ?_|refine zK ?_|refine zL rfl ?_|refine zN rfl ?_)
    refine wp_row (j := n) K 0 rfl (blk_get hw) ?_
    repeat (first|refine zA ?_|refine zB rfl ?_|refine zC ?_|refine zD ?_|refine zE rfl ?_|refine zF ?_|refine zG ?_|refine zH ?_|refine zI ?_|refine zJ ?_|refine zK ?_|refine zL rfl ?_|refine zN rfl ?_)
    refine wp_set1 (j := 4) K 2 rfl (Nat.le_of_ble_eq_true rfl) ⟨rfl, rfl⟩ fun S6 K => ?_
    repeat (first|refine zA ?_|refine zB rfl ?_|refine zC ?_|refine zD ?_|refine zE rfl ?_|refine zF ?_|refine zG ?_|refine zH ?_|refine zI ?_|refine zJ ?_|refine zK ?_|refine zL rfl ?_|refine zN rfl ?_)
    refine wp_set1 (j := 5) K 2 rfl (Nat.le_of_ble_eq_true rfl) ⟨rfl, rfl⟩ fun S7 K => ?_
    repeat (first|refine zA ?_|refine zB rfl ?_|refine zC ?_|refine zD ?_|refine zE rfl ?_|refine zF ?_|refine zG ?_|refine zH ?_|refine zI ?_|refine zJ ?_|refine zK ?_|refine zL rfl ?_|refine zN rfl ?_)
    refine wp_set1 (j := 6) K 2 rfl (Nat.le_of_ble_eq_true rfl) ⟨rfl, rfl⟩ fun S8 K => ?_
    repeat (first|refine zA ?_|refine zB rfl ?_|refine zC ?_|refine zD ?_|refine zE rfl ?_|refine zF ?_|refine zG ?_|refine zH ?_|refine zI ?_|refine zJ ?_|refine zK ?_|refine zL rfl ?_|refine zN rfl ?_)
    refine wp_set1 (j := n) K 0 rfl (by simp [blk]; omega) ⟨rfl, rfl⟩ fun S9 K => ?_
    refine wp_ret ?_
    show wp EM _ _ _
    have e : (blk x rest).set n (U z) = (x.ws.set n z).map U ++ rest := blk_set hn
    have K : Cx B0 W S9 (.obj bl (.row ((blk x rest).set n (U z))) :: .obj q (.row [I 0, I 0, U 0, U 0, B false]) :: .obj m (.row (Me.prow ⟨x.ws, kind, n, old, z, held, x.n + 1⟩ bl)) :: R) ro := K
    rw [e] at K
    have hp : Me.prow ⟨x.ws.set n z, kind, n, old, z, held, x.n + 1⟩ bl = Me.prow ⟨x.ws, kind, n, old, z, held, x.n + 1⟩ bl := by unfold Me.prow; rw [List.length_set]; rfl
    have K := K.permS (own' := .obj q (.row [I 0, I 0, U 0, U 0, B false]) :: .obj m (.row (Me.prow ⟨x.ws, kind, n, old, z, held, x.n + 1⟩ bl)) :: .obj bl (.row ((x.ws.set n z).map U ++ rest)) :: R) (List.perm_middle (l₁ := [_, _]) (l₂ := R)).symm
    refine fin (y := ⟨x.ws.set n z, kind, n, old, z, held, x.n + 1⟩) ?_
    unfold pMem
    rw [hp]
    exact K
  · rw [if_neg hh]
    have hacc : x.acc kind a z held = ⟨x.ws, kind, a, 0, 0, false, x.n + 1⟩ := if_neg hh
    rw [hacc]
    refine wp_call (wpC_mono isPlace_N fun r S4 qq => ?_)
    obtain ⟨rfl, rfl⟩ := qq
    refine wp_bind ?_
    repeat (first|refine zA ?_|refine zB rfl ?_|refine zC ?_|refine zD ?_|refine zE rfl ?_|refine zF ?_|refine zG ?_|refine zH ?_|refine zI ?_|refine zJ ?_|refine zK ?_|refine zL rfl ?_|refine zN rfl ?_)
    refine wp_ret ?_
    show wp EM _ _ _
    exact fin H
end
end Go.Abs
namespace Go.Abs
open Go.Proofs
set_option maxRecDepth 100000
set_option linter.unusedVariables false
/-- the words are words -/
def Me.good (x : Me) : Prop := x.wf ∧ ∀ w ∈ x.ws, 0 ≤ w ∧ w < 18446744073709551616
theorem Me.word_bd {x : Me} (h : x.good) (a : Int) : 0 ≤ x.word a ∧ x.word a < 18446744073709551616 := by
  unfold Me.word
  split
  · next hh =>
    have hn : a.toNat < x.ws.length := by have := hh.2; have := hh.1; omega
    rw [List.getElem?_eq_getElem hn]
    exact h.2 _ (List.getElem_mem hn)
  · omega
section
variable {B0 S : AH} {W : List Nat} {own R : List Own} {ro : List Fct} {Q : Post} {k : AV → AC} {v : AV} {m bl w : Nat} {x : Me} {rest : List AV}
theorem wp_aslice {M : Mach} {len id n : Nat} (hn : n ≤ len) (hl : Nat.beq len 0 = false) (h : wp M (k (.sl id 0 n len)) S Q) : wp M (.op (.aslice len 1 (.ptr id 0) none (some (I (n : Int))) none) k) S Q := by
  refine wp_op (v := .sl id 0 n len) ?_ h
  show pur (pAslice len 1 (.ptr id 0) none (some (I (n : Int))) none) S = _
  have e1 : bndO (some (I (n : Int))) len len = some n := by
    show bnd? (I (n : Int)) len = _
    unfold bnd?
    show below n len.succ = some n
    unfold below
    rw [ble_t (by omega)]
  have e2 : bnds none (some (I (n : Int))) none len len = some (0, n, len) := by
    unfold bnds
    show (match bndO (some (I (n : Int))) len len with | some h => _ | none => none) = _
    rw [e1]
    rfl
  unfold pAslice
  simp only [e2, hl]
  rfl
theorem storeD_ok {c : AV} {z o : Int} : wpC EM (.fn (.func 34) [.agg [c, U z, U o]] []) [] S fun r S' => r = .tup [U z, B true] ∧ Grows S S' := by
  refine wpC_fn (b := Tryz.a34) rfl rfl ?_
  have H : Cx S [] S [] [] := Cx.enter (by simp)
  unfold Tryz.a34
  refine wp_box H rfl fun p S1 H => ?_
  repeat (first|refine zA ?_|refine zB rfl ?_|refine zC ?_|refine zD ?_|refine zE rfl ?_|refine zF ?_|refine zG ?_|refine zH ?_|refine zI ?_|refine zJ ?_|refine zK ?_|refine zL rfl ?_|refine zN rfl ?_)
  refine wp_ld (o := 1) H (by repeat (first | exact List.Mem.head _ | apply List.Mem.tail)) rfl ?_
  exact wp_ret ⟨rfl, rfl, H.grows⟩
def Me.at (x : Me) (bl : Nat) (a : Int) : AV := if x.has a then .ptr bl a.toNat else Np
theorem Me.at_cases (x : Me) (bl : Nat) (a : Int) : x.at bl a = Np ∨ ∃ i o, x.at bl a = .ptr i o := by
  unfold Me.at; split
  · exact .inr ⟨_, _, rfl⟩
  · exact .inl rfl
theorem store_ok' {a z : Int} (hx : x.wf) (H : Cx B0 W S (pMem m bl x rest ++ R) ro) : wpC EM (.fn (.func 9) [] []) [.ptr m 0, I a, U z] S fun r S' => Cx B0 W S' (pMem m bl (x.acc 2 a z true) rest ++ R) ro := by
  refine wpC_fn (b := Tryz.a9) rfl rfl ?_
  unfold Tryz.a9 Tryz.a9x0
  refine wp_call (wpC_mono (cell_ok' hx H) fun r S1 q => ?_)
  obtain ⟨rfl, rfl⟩ := q
  have hd : ∀ {S : AH}, Cx B0 W S (pMem m bl x rest ++ R) ro → wpC EM (.fn (.func 33) [] []) [.ptr m 0, I 2, I a, x.at bl a, .fn (.func 34) [.agg [x.at bl a, U z, U 0]] []] S fun r S' => r = .agg (x.acc 2 a z true).last ∧ Cx B0 W S' (pMem m bl (x.acc 2 a z true) rest ++ R) ro :=
    fun H => do_ok' hx H fun hh S1 R1 H => wpC_mono storeD_ok fun r S5 qq => ⟨qq.1, H.grow qq.2⟩
  change wp EM (.op (.build [Np, U 0, U 0] [(0, 1, x.at bl a), (1, 1, U z)]) _) _ _
  have hc := x.at_cases bl a
  generalize x.at bl a = c at hc hd
  have ho : odd c = false ∧ c.cells = [c] := by rcases hc with rfl | ⟨i, o, rfl⟩ <;> exact ⟨rfl, rfl⟩
  refine wp_op (v := .agg [c, U z, U 0]) (by rcases hc with rfl | ⟨i, o, rfl⟩ <;> rfl) ?_
  refine wp_alloc H fun q S2 H => ?_
  refine wp_store (n := 3) H 0 (c := [Np, U 0, U 0]) rfl rfl rfl (by simp) fun S3 H => ?_
  have H : Cx B0 W S3 (.obj q (.row [c, U z, U 0]) :: (pMem m bl x rest ++ R)) ro := H
  repeat (first|refine zA ?_|refine zB rfl ?_|refine zC ?_|refine zD ?_|refine zE rfl ?_|refine zF ?_|refine zG ?_|refine zH ?_|refine zI ?_|refine zJ ?_|refine zK ?_|refine zL rfl ?_|refine zN rfl ?_)
  refine wp_row (j := 0) H 0 rfl rfl ?_
  refine wp_loadoa (n := 3) H 0 rfl (by simp) ?_
  refine wp_call (wpC_mono (hd (H.dropAt 0)) fun r S4 qq => ?_)
  exact wp_ret ⟨rfl, qq.2⟩
theorem count_ok' (H : Cx B0 W S (pMem m bl x rest ++ R) ro) : wpC EM (.fn (.func 16) [] []) [.ptr m 0] S fun r S' => r = I x.n ∧ S' = S := by
  refine wpC_fn (b := Tryz.a16) rfl rfl ?_
  unfold Tryz.a16
  refine wp_op (e_ptrNil (by kernel_rfl)) ?_
  repeat (first|refine zA ?_|refine zB rfl ?_|refine zC ?_|refine zD ?_|refine zE rfl ?_|refine zF ?_|refine zG ?_|refine zH ?_|refine zI ?_|refine zJ ?_|refine zK ?_|refine zL rfl ?_|refine zN rfl ?_)
  refine wp_row (j := 7) H 0 rfl rfl ?_
  exact wp_ret ⟨rfl, rfl, rfl⟩
def Me.fresh (n : Nat) : Me := ⟨List.replicate n 0, 0, 0, 0, 0, false, 0⟩
theorem newC_ok {n : Nat} (h1 : 1 ≤ n) (h2 : n ≤ 4096) (H : Cx B0 W S own ro) : wpC EM (.fn (.func 7) [] []) [I (n : Int)] S fun r S' => ∃ m bl, r = .tup [.ptr m 0, I 0] ∧ Cx B0 W S' (pMem m bl (Me.fresh n) (List.replicate (4096 - n) (U 0)) ++ own) ro := by
  refine wpC_fn (b := Tryz.a7) rfl rfl ?_
  unfold Tryz.a7 Tryz.a7x0
  refine wp_lss_f (by omega) ?_
  repeat (first|refine zA ?_|refine zB rfl ?_|refine zC ?_|refine zD ?_|refine zE rfl ?_|refine zF ?_|refine zG ?_|refine zH ?_|refine zI ?_|refine zJ ?_|refine zK ?_|refine zL rfl ?_|refine zN rfl ?_)
  refine wp_gtr_f (by omega) ?_
  repeat (first|refine zA ?_|refine zB rfl ?_|refine zC ?_|refine zD ?_|refine zE rfl ?_|refine zF ?_|refine zG ?_|refine zH ?_|refine zI ?_|refine zJ ?_|refine zK ?_|refine zL rfl ?_|refine zN rfl ?_)
  refine wp_alloc H fun bl S1 H => ?_
  refine wp_op (v := .agg ((Me.fresh n).prow bl)) (by unfold Me.fresh Me.prow; rw [List.length_replicate]; rfl) ?_
  refine wp_boxOwn H rfl fun m S2 H => ?_
  have e : List.replicate 4096 (U 0) = (Me.fresh n).ws.map U ++ List.replicate (4096 - n) (U 0) := by
    unfold Me.fresh
    rw [List.map_replicate, List.replicate_append_replicate, show n + (4096 - n) = 4096 by omega]
  rw [e] at H
  exact wp_ret ⟨rfl, m, bl, rfl, H⟩
theorem words_ok (hx : x.wf) (hr : x.ws.length + rest.length = 4096) (H : Cx B0 W S (pMem m bl x rest ++ R) ro) : wpC EM (.fn (.func 137) [] []) [.ptr m 0] S fun r S' => Cx B0 W S' (.sl r 1 (uints x.ws) :: (pMem m bl x rest ++ R)) ro := by
  refine wpC_fn (b := Tryz.a137) rfl rfl ?_
  unfold Tryz.a137 Tryz.a137x5 Tryz.a137x4 Tryz.a137x3 Tryz.a137x2 Tryz.a137x1 Tryz.a137x0
  unfold Me.wf at hx
  refine wp_op (e_ptrNil (by kernel_rfl)) ?_
  repeat (first|refine zA ?_|refine zB rfl ?_|refine zC ?_|refine zD ?_|refine zE rfl ?_|refine zF ?_|refine zG ?_|refine zH ?_|refine zI ?_|refine zJ ?_|refine zK ?_|refine zL rfl ?_|refine zN rfl ?_)
  refine wp_row (j := 0) H 0 rfl rfl ?_
  repeat (first|refine zA ?_|refine zB rfl ?_|refine zC ?_|refine zD ?_|refine zE rfl ?_|refine zF ?_|refine zG ?_|refine zH ?_|refine zI ?_|refine zJ ?_|refine zK ?_|refine zL rfl ?_|refine zN rfl ?_)
  refine wp_op (e_ptrNil (by kernel_rfl)) ?_
  repeat (first|refine zA ?_|refine zB rfl ?_|refine zC ?_|refine zD ?_|refine zE rfl ?_|refine zF ?_|refine zG ?_|refine zH ?_|refine zI ?_|refine zJ ?_|refine zK ?_|refine zL rfl ?_|refine zN rfl ?_)
  refine wp_row (j := 1) H 0 rfl rfl ?_
  refine wp_mkslice1 H (by omega) (by omega) fun t S1 H => ?_
  have H : Cx B0 W S1 (.sl t 1 (List.replicate x.ws.length [U 0]) :: (pMem m bl x rest ++ R)) ro := H
  repeat (first|refine zA ?_|refine zB rfl ?_|refine zC ?_|refine zD ?_|refine zE rfl ?_|refine zF ?_|refine zG ?_|refine zH ?_|refine zI ?_|refine zJ ?_|refine zK ?_|refine zL rfl ?_|refine zN rfl ?_)
  refine wp_row (j := 0) H 1 rfl rfl ?_
  repeat (first|refine zA ?_|refine zB rfl ?_|refine zC ?_|refine zD ?_|refine zE rfl ?_|refine zF ?_|refine zG ?_|refine zH ?_|refine zI ?_|refine zJ ?_|refine zK ?_|refine zL rfl ?_|refine zN rfl ?_)
  refine wp_row (j := 1) H 1 rfl rfl ?_
  refine wp_aslice (by omega) rfl ?_
  refine wp_op (v := I (x.ws.length : Nat)) rfl ?_
  refine wp_bind (wp_loop (wpL_for x.ws.length (fun i vs S' => vs = [I (i : Int)] ∧ Cx B0 W S' (.sl t 1 (uints (x.ws.take i) ++ List.replicate (x.ws.length - i) [U 0]) :: (pMem m bl x rest ++ R)) ro) ?_ ?_ ⟨rfl, by simpa [uints] using H⟩))
  · rintro i vs S2 hi ⟨rfl, H⟩
    refine wp_lss_t (by omega) ?_
    repeat (first|refine zA ?_|refine zB rfl ?_|refine zC ?_|refine zD ?_|refine zE rfl ?_|refine zF ?_|refine zG ?_|refine zH ?_|refine zI ?_|refine zJ ?_|refine zK ?_|refine zL rfl ?_|refine zN rfl ?_)
    refine wp_bind ?_
    refine wp_op (S1 := S2) (v := .ptr bl (0 + i * 1)) ?_ ?_
    · show pur (pSaddr 1 (.sl bl 0 x.ws.length 4096) (I (i : Int))) S2 = _
      unfold pSaddr
      have h3 : idx? (I (i : Int)) x.ws.length = some i := by
        show below i x.ws.length = some i
        unfold below; rw [ble_t (by omega)]
      simp only [h3]
      rfl
    have hw : x.ws[i]? = some x.ws[i] := List.getElem?_eq_getElem hi
    rw [show 0 + i * 1 = i by omega]
    refine wp_row (j := i) H 2 rfl (blk_get hw) ?_
    generalize x.ws[i] = z at hw
    refine wp_storeE (y := U z) (i := i) H 0 rfl (by simp [uints]; omega) rfl rfl fun S3 H => ?_
    refine wp_ret ?_
    show wp EM _ _ _
    refine wp_add64 (by omega) (by omega) ?_
    refine wp_ret (.inl ⟨rfl, rfl, ?_⟩)
    have e : (uints (x.ws.take i) ++ List.replicate (x.ws.length - i) [U 0]).set i [U z] = uints (x.ws.take (i + 1)) ++ List.replicate (x.ws.length - (i + 1)) [U 0] := by
      have hl : (uints (x.ws.take i)).length = i := by rw [uints_len, List.length_take]; omega
      rw [List.set_append_right _ _ (by omega), hl, Nat.sub_self, List.take_add_one, hw, show x.ws.length - i = (x.ws.length - (i + 1)) + 1 by omega, List.replicate_succ, List.set_cons_zero]
      simp [uints]
    exact e ▸ H
  · rintro vs S2 ⟨rfl, H⟩
    refine wp_lss_f (by omega) ?_
    repeat (first|refine zA ?_|refine zB rfl ?_|refine zC ?_|refine zD ?_|refine zE rfl ?_|refine zF ?_|refine zG ?_|refine zH ?_|refine zI ?_|refine zJ ?_|refine zK ?_|refine zL rfl ?_|refine zN rfl ?_)
    refine wp_ret ⟨by simp, ?_⟩
    show wp EM _ _ _
    refine wp_ret ⟨rfl, ?_⟩
    rw [List.take_length, Nat.sub_self, show uints x.ws ++ List.replicate 0 [U 0] = uints x.ws by simp] at H
    exact H
/-! ### the document's -/
theorem newR_ok {n : Nat} (h1 : 1 ≤ n) (h2 : n ≤ 4096) (H : Cx B0 W S own ro) : wpC EM (.fn (.func 8) [] []) [I (n : Int)] S fun r S' => ∃ w v, r = .tup [.ptr w 0, I 0] ∧ Cx B0 W S' (rMem w v (Me.fresh n) ++ own) ro := by
  refine wpC_fn (b := Tryz.a8) rfl rfl ?_
  unfold Tryz.a8 Tryz.a8x0
  refine wp_lss_f (by omega) ?_
  repeat (first|refine zA ?_|refine zB rfl ?_|refine zC ?_|refine zD ?_|refine zE rfl ?_|refine zF ?_|refine zG ?_|refine zH ?_|refine zI ?_|refine zJ ?_|refine zK ?_|refine zL rfl ?_|refine zN rfl ?_)
  refine wp_gtr_f (by omega) ?_
  repeat (first|refine zA ?_|refine zB rfl ?_|refine zC ?_|refine zD ?_|refine zE rfl ?_|refine zF ?_|refine zG ?_|refine zH ?_|refine zI ?_|refine zJ ?_|refine zK ?_|refine zL rfl ?_|refine zN rfl ?_)
  refine wp_mkslice1 H (by omega) (by omega) fun t S1 H => ?_
  have ht : Fv t := slOk_one (ownSl_ok (H.oh _ (List.Mem.head _)))
  refine wp_op (S1 := S1) (v := .agg ((Me.fresh n).rrow t)) ?_ ?_
  · show pur (pBuild [Ns, I 0, I 0, U 0, U 0, B false, I 0] [(0, 1, t)]) S1 = _
    have e1 : (not (odd t) && Nat.beq (lenL t.cells) 1 && Nat.ble (Nat.add 0 1) (lenL [Ns, I 0, I 0, U 0, U 0, B false, I 0])) = true := by
      rw [ht.1, ht.2]; rfl
    unfold pBuild fillP
    rw [e1, ht.2]
    rfl
  refine wp_boxOwn H rfl fun w S2 H => ?_
  have e : List.replicate n [U 0] = uints (Me.fresh n).ws := by
    unfold Me.fresh uints
    rw [List.map_replicate]
  rw [e] at H
  exact wp_ret ⟨rfl, w, t, rfl, H⟩
theorem at_ok {a : Int} (H : Cx B0 W S (rMem w v x ++ R) ro) : wpC EM (.fn (.func 38) [] []) [.ptr w 0, I a] S fun r S' => r = U (x.word a) ∧ S' = S := by
  refine wpC_fn (b := Tryz.a38) rfl rfl ?_
  unfold Tryz.a38 Tryz.a38x1 Tryz.a38x0
  have out : ¬ x.has a → x.word a = 0 := fun h => if_neg h
  refine wp_lss (fun h0 => ?_) (fun h0 => ?_)
  · repeat (first|refine zA ?_|refine zB rfl ?_|refine zC ?_|refine zD ?_|refine zE rfl ?_|refine zF ?_|refine zG ?_|refine zH ?_|refine zI ?_|refine zJ ?_|refine zK ?_|refine zL rfl ?_|refine zN rfl ?_)
    exact wp_ret ⟨rfl, by rw [out (fun h => by have := h.1; omega)]; rfl, rfl⟩
  repeat (first|refine zA ?_|refine zB rfl ?_|refine zC ?_|refine zD ?_|refine zE rfl ?_|refine zF ?_|refine zG ?_|refine zH ?_|refine zI ?_|refine zJ ?_|refine zK ?_|refine zL rfl ?_|refine zN rfl ?_)
  refine wp_row (j := 0) H 0 rfl rfl ?_
  repeat (first|refine zA ?_|refine zB rfl ?_|refine zC ?_|refine zD ?_|refine zE rfl ?_|refine zF ?_|refine zG ?_|refine zH ?_|refine zI ?_|refine zJ ?_|refine zK ?_|refine zL rfl ?_|refine zN rfl ?_)
  refine wp_leno H 1 rfl ?_
  rw [uints_len]
  repeat (first|refine zA ?_|refine zB rfl ?_|refine zC ?_|refine zD ?_|refine zE rfl ?_|refine zF ?_|refine zG ?_|refine zH ?_|refine zI ?_|refine zJ ?_|refine zK ?_|refine zL rfl ?_|refine zN rfl ?_)
  refine wp_geq (fun h1 => ?_) (fun h1 => ?_)
  · repeat (first|refine zA ?_|refine zB rfl ?_|refine zC ?_|refine zD ?_|refine zE rfl ?_|refine zF ?_|refine zG ?_|refine zH ?_|refine zI ?_|refine zJ ?_|refine zK ?_|refine zL rfl ?_|refine zN rfl ?_)
    exact wp_ret ⟨rfl, by rw [out (fun h => by have := h.2; omega)]; rfl, rfl⟩
  repeat (first|refine zA ?_|refine zB rfl ?_|refine zC ?_|refine zD ?_|refine zE rfl ?_|refine zF ?_|refine zG ?_|refine zH ?_|refine zI ?_|refine zJ ?_|refine zK ?_|refine zL rfl ?_|refine zN rfl ?_)
  obtain ⟨n, rfl⟩ : ∃ n : Nat, a = (n : Int) := ⟨a.toNat, by omega⟩
  have hw : x.ws[n]? = some x.ws[n] := List.getElem?_eq_getElem (by omega)
  generalize x.ws[n] = z at hw
  refine wp_row (j := 0) H 0 rfl rfl ?_
  refine wp_saddro H 1 rfl (uints_get? hw) fun id off hp => ?_
  refine wp_loadF0 hp ?_
  exact wp_ret ⟨rfl, by rw [Me.word_eq hw]; rfl, rfl⟩
theorem access_ok {kind a z : Int} {held : Bool} (hx : x.wf) (H : Cx B0 W S (rMem w v x ++ R) ro) : wpC EM (.fn (.func 35) [] []) [.ptr w 0, I kind, I a, B held, U z] S fun r S' => Cx B0 W S' (rMem w v (x.acc kind a (if held then z else x.word a) held) ++ R) ro := by
  refine wpC_fn (b := Tryz.a35) rfl rfl ?_
  unfold Tryz.a35 Tryz.a35x7 Tryz.a35x6 Tryz.a35x5 Tryz.a35x4 Tryz.a35x3 Tryz.a35x2 Tryz.a35x1 Tryz.a35x0
  unfold Me.wf at hx
  have hv : Fv v := slOk_one (ownSl_ok (H.oh _ (List.Mem.tail _ (List.Mem.head _))))
  repeat (first|refine zA ?_|refine zB rfl ?_|refine zC ?_|refine zD ?_|refine zE rfl ?_|refine zF ?_|refine zG ?_|refine zH ?_|refine zI ?_|refine zJ ?_|refine zK ?_|refine zL rfl ?_|refine zN rfl ?_)
  refine wp_row (j := 6) H 0 rfl rfl ?_
  refine wp_add64 (by omega) (by omega) ?_
  repeat (first|refine zA ?_|refine zB rfl ?_|refine zC ?_|refine zD ?_|refine zE rfl ?_|refine zF ?_|refine zG ?_|refine zH ?_|refine zI ?_|refine zJ ?_|refine zK ?_|refine zL rfl ?_|refine zN rfl ?_)
  refine wp_set1 (j := 6) H 0 rfl (by simp [Me.rrow, Me.last]) ⟨rfl, rfl⟩ fun S1 H => ?_
  refine wp_op (v := .agg [I kind, I a, U 0, U 0, B false]) rfl ?_
  repeat (first|refine zA ?_|refine zB rfl ?_|refine zC ?_|refine zD ?_|refine zE rfl ?_|refine zF ?_|refine zG ?_|refine zH ?_|refine zI ?_|refine zJ ?_|refine zK ?_|refine zL rfl ?_|refine zN rfl ?_)
  refine wp_store (off := 1) (n := 5) H 0 rfl rfl rfl (Nat.le_of_ble_eq_true rfl) fun S2 H => ?_
  have H : Cx B0 W S2 (rMem w v ⟨x.ws, kind, a, 0, 0, false, x.n + 1⟩ ++ R) ro := H
  have out : ¬ x.has a → x.acc kind a (if held then z else x.word a) held = ⟨x.ws, kind, a, 0, 0, false, x.n + 1⟩ := fun h => if_neg h
  refine wp_lss (fun h0 => ?_) (fun h0 => ?_)
  · repeat (first|refine zA ?_|refine zB rfl ?_|refine zC ?_|refine zD ?_|refine zE rfl ?_|refine zF ?_|refine zG ?_|refine zH ?_|refine zI ?_|refine zJ ?_|refine zK ?_|refine zL rfl ?_|refine zN rfl ?_)
    exact wp_ret ⟨rfl, by rw [out (fun h => by have := h.1; omega)]; exact H⟩
  repeat (first|refine zA ?_|refine zB rfl ?_|refine zC ?_|refine zD ?_|refine zE rfl ?_|refine zF ?_|refine zG ?_|refine zH ?_|refine zI ?_|refine zJ ?_|refine zK ?_|refine zL rfl ?_|refine zN rfl ?_)
  refine wp_row (j := 0) H 0 rfl rfl ?_
  repeat (first|refine zA ?_|refine zB rfl ?_|refine zC ?_|refine zD ?_|refine zE rfl ?_|refine zF ?_|refine zG ?_|refine zH ?_|refine zI ?_|refine zJ ?_|refine zK ?_|refine zL rfl ?_|refine zN rfl ?_)
  refine wp_leno H 1 rfl ?_
  rw [uints_len]
  repeat (first|refine zA ?_|refine zB rfl ?_|refine zC ?_|refine zD ?_|refine zE rfl ?_|refine zF ?_|refine zG ?_|refine zH ?_|refine zI ?_|refine zJ ?_|refine zK ?_|refine zL rfl ?_|refine zN rfl ?_)
  refine wp_geq (fun h1 => ?_) (fun h1 => ?_)
  · repeat (first|refine zA ?_|refine zB rfl ?_|refine zC ?_|refine zD ?_|refine zE rfl ?_|refine zF ?_|refine zG ?_|refine zH ?_|refine zI ?_|refine zJ ?_|refine zK ?_|refine zL rfl ?_|refine zN rfl ?_)
    exact wp_ret ⟨rfl, by rw [out (fun h => by have := h.2; exact absurd h1 (by show ¬ (x.ws.length : Int) ≤ a; omega))]; exact H⟩
  repeat (first|refine zA ?_|refine zB rfl ?_|refine zC ?_|refine zD ?_|refine zE rfl ?_|refine zF ?_|refine zG ?_|refine zH ?_|refine zI ?_|refine zJ ?_|refine zK ?_|refine zL rfl ?_|refine zN rfl ?_)
  obtain ⟨n, rfl⟩ : ∃ n : Nat, a = (n : Int) := ⟨a.toNat, by omega⟩
  have h1 : n < x.ws.length := by have : (n : Int) < x.ws.length := h1; omega
  have hw : x.ws[n]? = some x.ws[n] := List.getElem?_eq_getElem h1
  generalize x.ws[n] = old at hw
  have hh : x.has n := ⟨by omega, by omega⟩
  have hacc : x.acc kind n (if held then z else x.word n) held = ⟨x.ws.set n (if held then z else old), kind, n, old, (if held then z else old), held, x.n + 1⟩ := by
    unfold Me.acc
    rw [if_pos hh, Me.word_eq hw, Int.toNat_natCast]
  rw [hacc]
  refine wp_row (j := 0) H 0 rfl rfl ?_
  refine wp_saddro H 1 rfl (uints_get? hw) fun id off hp => ?_
  refine wp_loadF0 hp ?_
  repeat (first|refine zA ?_|refine zB rfl ?_|refine zC ?_|refine zD ?_|refine zE rfl ?_|refine zF ?_|refine zG ?_|refine zH ?_|refine zI ?_|refine zJ ?_|refine zK ?_|refine zL rfl ?_|refine zN rfl ?_)
  refine wp_set1 (j := 3) H 0 rfl (Nat.le_of_ble_eq_true rfl) ⟨rfl, rfl⟩ fun S3 H => ?_
  have H : Cx B0 W S3 (.obj w (.row [v, I kind, I n, U old, U 0, B false, I (x.n + 1)]) :: .sl v 1 (uints x.ws) :: R) ro := H
  have fin : ∀ (z' : Int) S4, Cx B0 W S4 (.obj w (.row [v, I kind, I n, U old, U 0, B false, I (x.n + 1)]) :: .sl v 1 (uints (x.ws.set n z')) :: R) ro → wp EM (.op (.nilchk (.ptr w 0)) fun v31 => .op (.faddr 0 v31) fun v32 => Tryz.a35x2 [.ptr w 0, I kind, I n, B held, U z] v32) S4 fun t vs S' => t = .ret ∧ Cx B0 W S' (rMem w v ⟨x.ws.set n z', kind, n, old, z', held, x.n + 1⟩ ++ R) ro := by
    intro z' S4 H
    unfold Tryz.a35x2 Tryz.a35x1
    repeat (first|refine zA ?_|refine zB rfl ?_|refine zC ?_|refine zD ?_|refine zE rfl ?_|refine zF ?_|refine zG ?_|refine zH ?_|refine zI ?_|refine zJ ?_|refine zK ?_|refine zL rfl ?_|refine zN rfl ?_)
    refine wp_row (j := 0) H 0 rfl rfl ?_
    have hw' : (x.ws.set n z')[n]? = some z' := by rw [List.getElem?_set]; simp [h1]
    refine wp_saddro H 1 rfl (uints_get? hw') fun id off hp => ?_
    refine wp_loadF0 hp ?_
    repeat (first|refine zA ?_|refine zB rfl ?_|refine zC ?_|refine zD ?_|refine zE rfl ?_|refine zF ?_|refine zG ?_|refine zH ?_|refine zI ?_|refine zJ ?_|refine zK ?_|refine zL rfl ?_|refine zN rfl ?_)
    refine wp_set1 (j := 4) H 0 rfl (Nat.le_of_ble_eq_true rfl) ⟨rfl, rfl⟩ fun S5 H => ?_
    repeat (first|refine zA ?_|refine zB rfl ?_|refine zC ?_|refine zD ?_|refine zE rfl ?_|refine zF ?_|refine zG ?_|refine zH ?_|refine zI ?_|refine zJ ?_|refine zK ?_|refine zL rfl ?_|refine zN rfl ?_)
    refine wp_set1 (j := 5) H 0 rfl (Nat.le_of_ble_eq_true rfl) ⟨rfl, rfl⟩ fun S6 H => ?_
    exact wp_ret ⟨rfl, H⟩
  unfold Tryz.a35x2 Tryz.a35x1 at fin
  refine wp_bind ?_
  cases held with
  | true =>
    repeat (first|refine zA ?_|refine zB rfl ?_|refine zC ?_|refine zD ?_|refine zE rfl ?_|refine zF ?_|refine zG ?_|refine zH ?_|refine zI ?_|refine zJ ?_|refine zK ?_|refine zL rfl ?_|refine zN rfl ?_)
    refine wp_row (j := 0) H 0 rfl rfl ?_
    refine wp_storeE (y := U z) (i := n) H 1 rfl (by rw [uints_len]; exact h1) rfl rfl fun S4 H => ?_
    refine wp_ret ?_
    show wp EM _ _ _
    refine fin z _ ?_
    rw [← uints_set]
    exact H
  | false =>
    repeat (first|refine zA ?_|refine zB rfl ?_|refine zC ?_|refine zD ?_|refine zE rfl ?_|refine zF ?_|refine zG ?_|refine zH ?_|refine zI ?_|refine zJ ?_|refine zK ?_|refine zL rfl ?_|refine zN rfl ?_)
    refine wp_ret ?_
    show wp EM _ _ _
    refine fin old _ ?_
    rw [show x.ws.set n old = x.ws from ?_]
    · exact H
    · apply List.ext_getElem?
      intro i
      rw [List.getElem?_set]
      by_cases e : n = i
      · subst e; rw [if_pos rfl, if_pos h1, hw]
      · rw [if_neg e]
theorem storeR_ok {a z : Int} (hx : x.wf) (H : Cx B0 W S (rMem w v x ++ R) ro) : wpC EM (.fn (.func 10) [] []) [.ptr w 0, I a, U z] S fun r S' => Cx B0 W S' (rMem w v (x.acc 2 a z true) ++ R) ro := by
  refine wpC_fn (b := Tryz.a10) rfl rfl ?_
  unfold Tryz.a10
  refine wp_call (wpC_mono (access_ok (held := true) hx H) fun r S1 H => ?_)
  exact wp_ret ⟨rfl, H⟩
end
end Go.Abs
namespace Go.Abs
open Go.Proofs
set_option maxRecDepth 100000
set_option linter.unusedVariables false
/-! ### numbers without a sign -/
section
variable {M : Mach} {S : AH} {Q : Post} {k : AV → AC} {κ κ' : IntKind}
theorem e_shr {a b : Int} (hb : 0 ≤ b) : evalOp M.P (.bin .shr (Z κ a) (Z κ' b)) S = some (Z κ (a.fdiv (2 ^ (min b.toNat κ.bits))), S) := by
  show pur (bShr (Z κ a) (Z κ' b)) S = _
  have : ltF b 0 = false := by rw [ltF_eq]; simpa using hb
  unfold bShr
  simp only [this]
  rfl
theorem shr_nat {n s : Nat} : ((n : Int).fdiv (2 ^ s)) = ((n / 2 ^ s : Nat) : Int) := by
  have : ((2 : Int) ^ s) = ((2 ^ s : Nat) : Int) := by simp
  rw [this, Int.ofNat_fdiv]
theorem wp_shrU {n s : Nat} (hn : n ≤ 18446744073709551615) (hs : s ≤ 64) (h : wp M (k (U ((n / 2 ^ s : Nat) : Int))) S Q) : wp M (.op (.bin .shr (U (n : Int)) (Z κ' (s : Int))) k) S Q := by
  refine wp_op (e_shr (by omega)) ?_
  have e : min (s : Int).toNat IntKind.u64.bits = s := by show min (s : Int).toNat 64 = s; omega
  rw [e, shr_nat]; exact h
theorem wp_conv {a c : Int} (hw : wrapF κ a = c) (h : wp M (k (Z κ c)) S Q) : wp M (.op (.conv κ (Z κ' a)) k) S Q := wp_op (v := Z κ c) (by show pur (pConv κ (Z κ' a)) S = _; rw [← hw]; rfl) h
theorem wrapUn {n : Nat} (h : n < 18446744073709551616) : wrapF .u64 (n : Int) = (n : Int) := by rw [wrapF_eq, IntKind.wrap_u64]; omega
theorem wrap32 {n : Nat} : wrapF .u32 (n : Int) = ((n % 4294967296 : Nat) : Int) := by rw [wrapF_eq, IntKind.wrap_u32]; omega
theorem wp_convU (n : Nat) (h : n < 18446744073709551616) (hk : wp M (k (U (n : Int))) S Q) : wp M (.op (.conv .u64 (Z κ' (n : Int))) k) S Q := wp_conv (wrapUn h) hk
theorem wp_convI (n : Nat) (h : n < 9223372036854775808) (hk : wp M (k (I (n : Int))) S Q) : wp M (.op (.conv .i64 (Z κ' (n : Int))) k) S Q := wp_conv (wrap64 (by omega) (by omega)) hk
theorem wp_conv32 (n : Nat) (hk : wp M (k (Z .u32 ((n % 4294967296 : Nat) : Int))) S Q) : wp M (.op (.conv .u32 (Z κ' (n : Int))) k) S Q := wp_conv wrap32 hk
theorem wp_remU {a b : Nat} (hb : b ≠ 0) (h : wp M (k (U ((a % b : Nat) : Int))) S Q) : wp M (.op (.bin .rem (U (a : Int)) (U (b : Int))) k) S Q := wp_rem (by omega) (by
  rw [Int.tmod_eq_emod_of_nonneg (by omega)]; exact_mod_cast h)
theorem wp_quoU {a b : Nat} (hb : b ≠ 0) (ha : a < 18446744073709551616) (h : wp M (k (U ((a / b : Nat) : Int))) S Q) : wp M (.op (.bin .quo (U (a : Int)) (U (b : Int))) k) S Q := by
  have h2 : a / b ≤ a := Nat.div_le_self a b
  refine wp_quo (c := ((a / b : Nat) : Int)) (by omega) ?_ h
  rw [Int.tdiv_eq_ediv_of_nonneg (by omega)]
  exact wrapUn (n := a / b) (by omega)
theorem wp_andU {a b : Nat} (ha : a < 18446744073709551616) (hb : b < 18446744073709551616) (h : wp M (k (U ((a &&& b : Nat) : Int))) S Q) : wp M (.op (.bin .and (U (a : Int)) (U (b : Int))) k) S Q := wp_op (v := U ((a &&& b : Nat) : Int)) (by
  show pur (bAnd (U (a : Int)) (U (b : Int))) S = _
  unfold bAnd
  simp only [int2, asInt, vInt, kindEq_refl]
  have e : (BitVec.ofInt IntKind.u64.bits (a : Int) &&& BitVec.ofInt IntKind.u64.bits (b : Int)).toNat = a &&& b := by
    rw [BitVec.toNat_and]
    have x : ∀ n : Nat, n < 18446744073709551616 → (BitVec.ofInt IntKind.u64.bits (n : Int)).toNat = n := by
      intro n hn
      show (BitVec.ofInt 64 (n : Int)).toNat = n
      rw [BitVec.ofInt_natCast, BitVec.toNat_ofNat]
      exact Nat.mod_eq_of_lt hn
    rw [x a ha, x b hb]
  have hor : a &&& b < 18446744073709551616 := Nat.lt_of_le_of_lt Nat.and_le_left ha
  show pur (some (AV.sc (.int .u64 (wrapF .u64 ((BitVec.ofInt IntKind.u64.bits (a : Int) &&& BitVec.ofInt IntKind.u64.bits (b : Int)).toNat : Nat))))) S = _
  rw [e, wrapUn hor]; rfl) h
theorem wp_addU {n : Nat} (h : wp M (k (U (((n + 1) % 18446744073709551616 : Nat) : Int))) S Q) : wp M (.op (.bin .add (U (n : Int)) (U 1)) k) S Q := wp_add (c := (((n + 1) % 18446744073709551616 : Nat) : Int)) (by rw [wrapF_eq, IntKind.wrap_u64]; omega) h
end
/-! ### rings -/
structure Rg where
  hd : Int
  tl : Int
  sl : Int
  cp : Nat
def Rg.cs (r : Rg) : List AV := [I r.hd, I r.tl, I r.sl, I r.cp]
def Rg.ok (r : Rg) : Prop := 1 ≤ r.cp ∧ r.cp ≤ 4096 ∧ 0 ≤ r.sl ∧ r.sl ≤ 1000000
def Rg.place (r : Rg) (n : Nat) : Int := r.sl + ((n % r.cp : Nat) : Int)
def Rg.lap (r : Rg) (n : Nat) : Nat := n / r.cp % 4294967296
def slFull (w lap : Nat) : Prop := w / 4294967296 = lap ∧ w / 65536 % 2 = 1
instance (w lap : Nat) : Decidable (slFull w lap) := inferInstanceAs (Decidable (_ ∧ _))
section
variable {B0 S : AH} {W : List Nat} {own R : List Own} {ro : List Fct} {Q : Post} {r : Rg}
theorem rplace_ok {n : Nat} (hr : r.ok) (hn : n < 18446744073709551616) : wpC EM (.fn (.func 151) [] []) [.agg r.cs, U (n : Int)] S fun v S' => v = I (r.place n) ∧ Grows S S' := by
  refine wpC_fn (b := Tryz.a151) rfl rfl ?_
  have H : Cx S [] S [] [] := Cx.enter (by simp)
  unfold Rg.ok at hr
  have hm : n % r.cp < r.cp := Nat.mod_lt _ (by omega)
  unfold Tryz.a151 Tryz.a151x0
  refine wp_box H rfl fun p S1 H => ?_
  repeat (first|refine zA ?_|refine zB rfl ?_|refine zC ?_|refine zD ?_|refine zE rfl ?_|refine zF ?_|refine zG ?_|refine zH ?_|refine zI ?_|refine zJ ?_|refine zK ?_|refine zL rfl ?_|refine zN rfl ?_)
  refine wp_ld (o := 2) (cs := r.cs) H (by repeat (first | exact List.Mem.head _ | apply List.Mem.tail)) rfl ?_
  repeat (first|refine zA ?_|refine zB rfl ?_|refine zC ?_|refine zD ?_|refine zE rfl ?_|refine zF ?_|refine zG ?_|refine zH ?_|refine zI ?_|refine zJ ?_|refine zK ?_|refine zL rfl ?_|refine zN rfl ?_)
  refine wp_ld (o := 3) (cs := r.cs) H (by repeat (first | exact List.Mem.head _ | apply List.Mem.tail)) rfl ?_
  refine wp_convU r.cp (by omega) ?_
  refine wp_remU (by omega) ?_
  refine wp_convI _ (by omega) ?_
  refine wp_add64 (by omega) (by omega) ?_
  exact wp_ret ⟨rfl, rfl, H.grows⟩
theorem dplace_ok {n : Nat} (hr : r.ok) (hn : n < 18446744073709551616) : wpC EM (.fn (.func 226) [] []) [.agg r.cs, U (n : Int)] S fun v S' => v = I (r.place n) ∧ Grows S S' := by
  refine wpC_fn (b := Tryz.a226) rfl rfl ?_
  have H : Cx S [] S [] [] := Cx.enter (by simp)
  unfold Rg.ok at hr
  have hm : n % r.cp < r.cp := Nat.mod_lt _ (by omega)
  unfold Tryz.a226 Tryz.a226x0
  refine wp_box H rfl fun p S1 H => ?_
  repeat (first|refine zA ?_|refine zB rfl ?_|refine zC ?_|refine zD ?_|refine zE rfl ?_|refine zF ?_|refine zG ?_|refine zH ?_|refine zI ?_|refine zJ ?_|refine zK ?_|refine zL rfl ?_|refine zN rfl ?_)
  refine wp_ld (o := 2) (cs := r.cs) H (by repeat (first | exact List.Mem.head _ | apply List.Mem.tail)) rfl ?_
  repeat (first|refine zA ?_|refine zB rfl ?_|refine zC ?_|refine zD ?_|refine zE rfl ?_|refine zF ?_|refine zG ?_|refine zH ?_|refine zI ?_|refine zJ ?_|refine zK ?_|refine zL rfl ?_|refine zN rfl ?_)
  refine wp_ld (o := 3) (cs := r.cs) H (by repeat (first | exact List.Mem.head _ | apply List.Mem.tail)) rfl ?_
  refine wp_convU r.cp (by omega) ?_
  refine wp_remU (by omega) ?_
  refine wp_convI _ (by omega) ?_
  refine wp_add64 (by omega) (by omega) ?_
  exact wp_ret ⟨rfl, rfl, H.grows⟩
theorem rlap_ok {n : Nat} (hr : r.ok) (hn : n < 18446744073709551616) : wpC EM (.fn (.func 224) [] []) [.agg r.cs, U (n : Int)] S fun v S' => v = Z .u32 (r.lap n : Nat) ∧ Grows S S' := by
  refine wpC_fn (b := Tryz.a224) rfl rfl ?_
  have H : Cx S [] S [] [] := Cx.enter (by simp)
  unfold Rg.ok at hr
  unfold Tryz.a224
  refine wp_box H rfl fun p S1 H => ?_
  repeat (first|refine zA ?_|refine zB rfl ?_|refine zC ?_|refine zD ?_|refine zE rfl ?_|refine zF ?_|refine zG ?_|refine zH ?_|refine zI ?_|refine zJ ?_|refine zK ?_|refine zL rfl ?_|refine zN rfl ?_)
  refine wp_ld (o := 3) (cs := r.cs) H (by repeat (first | exact List.Mem.head _ | apply List.Mem.tail)) rfl ?_
  refine wp_convU r.cp (by omega) ?_
  refine wp_quoU (by omega) hn ?_
  refine wp_conv32 _ ?_
  exact wp_ret ⟨rfl, rfl, H.grows⟩
theorem dlap_ok {n : Nat} (hr : r.ok) (hn : n < 18446744073709551616) : wpC EM (.fn (.func 227) [] []) [.agg r.cs, U (n : Int)] S fun v S' => v = U (r.lap n : Nat) ∧ Grows S S' := by
  refine wpC_fn (b := Tryz.a227) rfl rfl ?_
  have H : Cx S [] S [] [] := Cx.enter (by simp)
  unfold Rg.ok at hr
  unfold Tryz.a227
  refine wp_box H rfl fun p S1 H => ?_
  repeat (first|refine zA ?_|refine zB rfl ?_|refine zC ?_|refine zD ?_|refine zE rfl ?_|refine zF ?_|refine zG ?_|refine zH ?_|refine zI ?_|refine zJ ?_|refine zK ?_|refine zL rfl ?_|refine zN rfl ?_)
  refine wp_ld (o := 3) (cs := r.cs) H (by repeat (first | exact List.Mem.head _ | apply List.Mem.tail)) rfl ?_
  refine wp_convU r.cp (by omega) ?_
  refine wp_quoU (by omega) hn ?_
  refine wp_remU (b := 4294967296) (by omega) ?_
  exact wp_ret ⟨rfl, rfl, H.grows⟩
theorem and16 {w : Nat} : (w &&& 65536 ≠ 0) ↔ w / 65536 % 2 = 1 := by
  have hb : w.testBit 16 = decide (w / 65536 % 2 = 1) := Nat.testBit_eq_decide_div_mod_eq
  have h2 : ∀ i, (w &&& 65536).testBit i = (w.testBit i && decide (16 = i)) := by
    intro i
    rw [Nat.testBit_and]
    have : (65536 : Nat).testBit i = decide (16 = i) := by
      show (2 ^ 16 : Nat).testBit i = _
      exact Nat.testBit_two_pow
    rw [this]
  constructor
  · intro h
    by_cases e : w / 65536 % 2 = 1
    · exact e
    · refine absurd (Nat.eq_of_testBit_eq fun i => ?_) h
      rw [h2, Nat.zero_testBit]
      by_cases hi : 16 = i
      · rw [← hi, hb, decide_eq_false e]; rfl
      · rw [decide_eq_false hi, Bool.and_false]
  · intro e h
    have := h2 16
    rw [h, Nat.zero_testBit, hb, decide_eq_true e] at this
    simp at this
theorem and15 {w : Nat} : w &&& 65535 = w % 65536 := Nat.and_two_pow_sub_one_eq_mod w 16
theorem rfull_ok {w lap : Nat} (hw : w < 18446744073709551616) : wpC EM (.fn (.func 223) [] []) [U (w : Int), Z .u32 (lap : Int)] S fun v S' => v = B (decide (slFull w lap)) ∧ S' = S := by
  refine wpC_fn (b := Tryz.a223) rfl rfl ?_
  unfold Tryz.a223 Tryz.a223x0
  refine wp_shrU (s := 32) (by omega) (by omega) ?_
  refine wp_conv32 _ ?_
  have e0 : w / 2 ^ 32 % 4294967296 = w / 4294967296 := by omega
  rw [e0]
  by_cases h : w / 4294967296 = lap
  · refine wp_eql_t (by omega) ?_
    repeat (first|refine zA ?_|refine zB rfl ?_|refine zC ?_|refine zD ?_|refine zE rfl ?_|refine zF ?_|refine zG ?_|refine zH ?_|refine zI ?_|refine zJ ?_|refine zK ?_|refine zL rfl ?_|refine zN rfl ?_)
    refine wp_andU hw (b := 65536) (by omega) ?_
    repeat (first|refine zA ?_|refine zB rfl ?_|refine zC ?_|refine zD ?_|refine zE rfl ?_|refine zF ?_|refine zG ?_|refine zH ?_|refine zI ?_|refine zJ ?_|refine zK ?_|refine zL rfl ?_|refine zN rfl ?_)
    by_cases h2 : w / 65536 % 2 = 1
    · refine wp_neq_t (by have := and16.2 h2; omega) ?_
      repeat (first|refine zA ?_|refine zB rfl ?_|refine zC ?_|refine zD ?_|refine zE rfl ?_|refine zF ?_|refine zG ?_|refine zH ?_|refine zI ?_|refine zJ ?_|refine zK ?_|refine zL rfl ?_|refine zN rfl ?_)
      exact wp_ret ⟨rfl, by rw [decide_eq_true (p := slFull w lap) ⟨h, h2⟩]; rfl, rfl⟩
    · refine wp_neq_f (by have : ¬ (w &&& 65536 ≠ 0) := fun q => h2 (and16.1 q); omega) ?_
      repeat (first|refine zA ?_|refine zB rfl ?_|refine zC ?_|refine zD ?_|refine zE rfl ?_|refine zF ?_|refine zG ?_|refine zH ?_|refine zI ?_|refine zJ ?_|refine zK ?_|refine zL rfl ?_|refine zN rfl ?_)
      exact wp_ret ⟨rfl, by rw [decide_eq_false (p := slFull w lap) (fun q => h2 q.2)]; rfl, rfl⟩
  · refine wp_eql_f (by omega) ?_
    repeat (first|refine zA ?_|refine zB rfl ?_|refine zC ?_|refine zD ?_|refine zE rfl ?_|refine zF ?_|refine zG ?_|refine zH ?_|refine zI ?_|refine zJ ?_|refine zK ?_|refine zL rfl ?_|refine zN rfl ?_)
    exact wp_ret ⟨rfl, by rw [decide_eq_false (p := slFull w lap) (fun q => h q.1)]; rfl, rfl⟩
theorem dfull_ok {w lap : Nat} (hw : w < 18446744073709551616) : wpC EM (.fn (.func 225) [] []) [U (w : Int), U (lap : Int)] S fun v S' => v = B (decide (slFull w lap)) ∧ S' = S := by
  refine wpC_fn (b := Tryz.a225) rfl rfl ?_
  unfold Tryz.a225 Tryz.a225x0
  refine wp_shrU (s := 32) (by omega) (by omega) ?_
  by_cases h : w / 4294967296 = lap
  · refine wp_eql_t (by omega) ?_
    repeat (first|refine zA ?_|refine zB rfl ?_|refine zC ?_|refine zD ?_|refine zE rfl ?_|refine zF ?_|refine zG ?_|refine zH ?_|refine zI ?_|refine zJ ?_|refine zK ?_|refine zL rfl ?_|refine zN rfl ?_)
    refine wp_shrU (s := 16) (by omega) (by omega) ?_
    repeat (first|refine zA ?_|refine zB rfl ?_|refine zC ?_|refine zD ?_|refine zE rfl ?_|refine zF ?_|refine zG ?_|refine zH ?_|refine zI ?_|refine zJ ?_|refine zK ?_|refine zL rfl ?_|refine zN rfl ?_)
    refine wp_remU (b := 2) (by omega) ?_
    repeat (first|refine zA ?_|refine zB rfl ?_|refine zC ?_|refine zD ?_|refine zE rfl ?_|refine zF ?_|refine zG ?_|refine zH ?_|refine zI ?_|refine zJ ?_|refine zK ?_|refine zL rfl ?_|refine zN rfl ?_)
    by_cases h2 : w / 65536 % 2 = 1
    · refine wp_eql_t (by omega) ?_
      repeat (first|refine zA ?_|refine zB rfl ?_|refine zC ?_|refine zD ?_|refine zE rfl ?_|refine zF ?_|refine zG ?_|refine zH ?_|refine zI ?_|refine zJ ?_|refine zK ?_|refine zL rfl ?_|refine zN rfl ?_)
      exact wp_ret ⟨rfl, by rw [decide_eq_true (p := slFull w lap) ⟨h, h2⟩]; rfl, rfl⟩
    · refine wp_eql_f (by omega) ?_
      repeat (first|refine zA ?_|refine zB rfl ?_|refine zC ?_|refine zD ?_|refine zE rfl ?_|refine zF ?_|refine zG ?_|refine zH ?_|refine zI ?_|refine zJ ?_|refine zK ?_|refine zL rfl ?_|refine zN rfl ?_)
      exact wp_ret ⟨rfl, by rw [decide_eq_false (p := slFull w lap) (fun q => h2 q.2)]; rfl, rfl⟩
  · refine wp_eql_f (by omega) ?_
    repeat (first|refine zA ?_|refine zB rfl ?_|refine zC ?_|refine zD ?_|refine zE rfl ?_|refine zF ?_|refine zG ?_|refine zH ?_|refine zI ?_|refine zJ ?_|refine zK ?_|refine zL rfl ?_|refine zN rfl ?_)
    exact wp_ret ⟨rfl, by rw [decide_eq_false (p := slFull w lap) (fun q => h q.1)]; rfl, rfl⟩
theorem rvalue_ok {w : Nat} (hw : w < 18446744073709551616) : wpC EM (.fn (.func 152) [] []) [U (w : Int)] S fun v S' => v = I ((w % 65536 : Nat) : Int) ∧ S' = S := by
  refine wpC_fn (b := Tryz.a152) rfl rfl ?_
  unfold Tryz.a152
  refine wp_andU hw (b := 65535) (by omega) ?_
  rw [and15]
  refine wp_convI _ (by omega) ?_
  exact wp_ret ⟨rfl, rfl, rfl⟩
end
end Go.Abs
namespace Go.Abs
open Go.Proofs
set_option maxRecDepth 100000
set_option linter.unusedVariables false
/-! ### what a ring has -/
def Me.wd (x : Me) (a : Int) : Nat := (x.word a).toNat
theorem Me.wd_eq {x : Me} (h : x.good) (a : Int) : x.word a = (x.wd a : Int) := by
  have := x.word_bd h a
  unfold Me.wd; omega
theorem Me.wd_lt {x : Me} (h : x.good) (a : Int) : x.wd a < 18446744073709551616 := by
  have := x.word_bd h a
  unfold Me.wd; omega
/-- the numbers of what waits, from n on -/
def nums (x : Me) (r : Rg) : Nat → Nat → List Nat
  | 0, _ => []
  | k + 1, n => if slFull (x.wd (r.place n)) (r.lap n) then n :: nums x r k ((n + 1) % 18446744073709551616) else []
theorem nums_yes {x : Me} {r : Rg} {k n : Nat} (h : slFull (x.wd (r.place n)) (r.lap n)) : nums x r (k + 1) n = n :: nums x r k ((n + 1) % 18446744073709551616) := if_pos h
theorem nums_no {x : Me} {r : Rg} {k n : Nat} (h : ¬ slFull (x.wd (r.place n)) (r.lap n)) : nums x r k n = [] := by
  cases k with
  | zero => rfl
  | succ k => exact if_neg h
theorem nums_len {x : Me} {r : Rg} : ∀ {k n : Nat}, (nums x r k n).length ≤ k
  | 0, _ => by simp [nums]
  | k + 1, n => by
    unfold nums
    split
    · have := nums_len (x := x) (r := r) (k := k) (n := (n + 1) % 18446744073709551616)
      simp only [List.length_cons]; omega
    · simp
theorem nums_lt {x : Me} {r : Rg} : ∀ {k n : Nat}, n < 18446744073709551616 → ∀ y ∈ nums x r k n, y < 18446744073709551616
  | 0, _, _ => by simp [nums]
  | k + 1, n, h => by
    unfold nums
    split
    · intro y hy
      rcases List.mem_cons.1 hy with rfl | hy
      · exact h
      · exact nums_lt (Nat.mod_lt _ (by omega)) y hy
    · simp
def ringVals (x : Me) (r : Rg) : List Int := (nums x r r.cp (x.wd r.hd)).map fun n => ((x.wd (r.place n) % 65536 : Nat) : Int)
section
variable {B0 S : AH} {W : List Nat} {own R : List Own} {ro : List Fct} {Q : Post} {k : AV → AC} {r : Rg} {m bl w : Nat} {x : Me} {rest : List AV} {v : AV}
theorem Cx.addNl (H : Cx B0 W S own ro) (es : Nat) : Cx B0 W S (.sl Ns es [] :: own) ro := H.addOwn (Grows.refl S) (.inl ⟨rfl, rfl⟩) (fun id hid => by simp [Own.ids, vids] at hid)
theorem wp_cko {M : Mach} {kc : AC} (H : Cx B0 W S own ro) (i : Nat) {id o : Nat} {c : List AV} {v : AV} (hi : own[i]? = some (.obj id (.row c))) (hj : c[o]? = some v) (hb : AV.beq v v = true) (h : wp M kc S Q) : wp M (.chk (.load 1 false (.ptr id o)) v kc) S Q := by
  refine wp_chk (v' := v) ?_ hb h
  show (match S.cells? id with | some c => mkPart false c o 1 | none => none) = _
  rw [row_cells (H.oh _ (List.mem_of_getElem? hi))]
  exact mkPart_one hj
theorem wp_gchk_f {M : Mach} {kc : AC} {o : AOp} {v : AV} (h : wp M kc S Q) : wp M (.gchk (B false) true o v kc) S Q := by
  obtain ⟨t, vs, S', ⟨n0, h1⟩, h2⟩ := h
  exact ⟨t, vs, S', ⟨n0, fun n hn => by
    show runGchk M.P (B false) true o v _ S = _
    unfold runGchk
    rw [show gIs (B false) true = some false from rfl]
    exact h1 n hn⟩, h2⟩
theorem beq_sl {v : AV} {es : Nat} {L : List (List AV)} (h : slOk S v es L) : AV.beq v v = true := by
  rcases h with ⟨rfl, _⟩ | ⟨id, off, c, (⟨_, _, _, rfl⟩ | ⟨_, _, _, rfl⟩), _⟩
  · rfl
  · simp [AV.beq]
  · simp [AV.beq]
def valOf (x : Me) (r : Rg) (n : Nat) : Int := ((x.wd (r.place n) % 65536 : Nat) : Int)
theorem rsz_ok {n : Nat} (h1 : 1 ≤ n) (h2 : n ≤ 4096) : wpC EM (.fn (.func 196) [] []) [I (n : Int)] S fun r' S' => r' = B true ∧ Grows S S' := by
  refine wpC_fn (b := Tryz.a196) rfl rfl ?_
  unfold Tryz.a196
  refine wp_geq_t (by omega) ?_
  repeat (first|refine zA ?_|refine zB rfl ?_|refine zC ?_|refine zD ?_|refine zE rfl ?_|refine zF ?_|refine zG ?_|refine zH ?_|refine zI ?_|refine zJ ?_|refine zK ?_|refine zL rfl ?_|refine zN rfl ?_)
  refine wp_leq_t (by omega) ?_
  repeat (first|refine zA ?_|refine zB rfl ?_|refine zC ?_|refine zD ?_|refine zE rfl ?_|refine zF ?_|refine zG ?_|refine zH ?_|refine zI ?_|refine zJ ?_|refine zK ?_|refine zL rfl ?_|refine zN rfl ?_)
  exact wp_ret ⟨rfl, rfl, Grows.refl _⟩
theorem rg_beq : ∀ y ∈ r.cs, AV.beq y y = true := by
  intro y hy
  simp only [Rg.cs, List.mem_cons, List.not_mem_nil, or_false] at hy
  rcases hy with rfl | rfl | rfl | rfl <;> exact beq_num
/-- the document's -/
theorem dall_ok (hx : x.good) (hr : r.ok) (H : Cx B0 W S (rMem w v x ++ R) ro) : wpC EM (.fn (.func 153) [] []) [.agg r.cs, .ptr w 0] S fun u S' => Cx B0 W S' (.sl u 1 (ints (ringVals x r)) :: (rMem w v x ++ R)) ro := by
  refine wpC_fn (b := Tryz.a153) rfl rfl ?_
  have hr0 := hr
  unfold Rg.ok at hr
  unfold Tryz.a153 Tryz.a153x6 Tryz.a153x5 Tryz.a153x4 Tryz.a153x3 Tryz.a153x2 Tryz.a153x1 Tryz.a153x0
  refine wp_box H rfl fun p S1 H => ?_
  have H : Cx B0 W S1 (rMem w v x ++ R) (.pt p 0 r.cs :: ro) := H
  have hp : Fct.pt p 0 r.cs ∈ (.pt p 0 r.cs :: ro) := List.Mem.head _
  repeat (first|refine zA ?_|refine zB rfl ?_|refine zC ?_|refine zD ?_|refine zE rfl ?_|refine zF ?_|refine zG ?_|refine zH ?_|refine zI ?_|refine zJ ?_|refine zK ?_|refine zL rfl ?_|refine zN rfl ?_)
  refine wp_ld (o := 3) H hp rfl ?_
  refine wp_callV H (rsz_ok hr.1 hr.2.1) fun S2 H => ?_
  refine wp_notT ?_
  repeat (first|refine zA ?_|refine zB rfl ?_|refine zC ?_|refine zD ?_|refine zE rfl ?_|refine zF ?_|refine zG ?_|refine zH ?_|refine zI ?_|refine zJ ?_|refine zK ?_|refine zL rfl ?_|refine zN rfl ?_)
  refine wp_ld (o := 0) H hp rfl ?_
  refine wp_call (wpC_mono (at_ok H) fun u S3 q => ?_)
  obtain ⟨rfl, rfl⟩ := q
  rw [Me.wd_eq hx]
  have hw0 := x.wd_lt hx r.hd
  have K : Cx B0 W S3 (rMem w v x ++ (.sl Ns 1 [] :: R)) (.pt p 0 r.cs :: ro) := (H.addNl 1).permS (List.perm_middle (l₁ := [_, _]) (l₂ := R)).symm
  have stop : ∀ {n : Nat} {u : AV} {d : List Nat} {S5 : AH}, ringVals x r = d.map (valOf x r) → Cx B0 W S5 (rMem w v x ++ (.sl u 1 (ints (d.map (valOf x r))) :: R)) (.pt p 0 r.cs :: ro) → Cx B0 W S5 (.sl u 1 (ints (ringVals x r)) :: (rMem w v x ++ R)) ro := by
    intro n u d S5 e H
    rw [e]
    exact (H.permS (List.perm_middle (l₁ := [_, _]) (l₂ := R))).tl
  refine wp_bind (wp_loop (wpL_for r.cp (fun i vs S' => ∃ n u d, vs = [U (n : Nat), u] ∧ n < 18446744073709551616 ∧ d.length = i ∧ nums x r r.cp (x.wd r.hd) = d ++ nums x r (r.cp - i) n ∧ Cx B0 W S' (rMem w v x ++ (.sl u 1 (ints (d.map (valOf x r))) :: R)) (.pt p 0 r.cs :: ro)) ?_ ?_ ⟨_, Ns, [], rfl, hw0, rfl, rfl, K⟩))
  · rintro i vs S4 hi ⟨n, u, d, rfl, hn, hd, hnum, H⟩
    refine wp_leno H 2 rfl ?_
    rw [ints_len, List.length_map, hd]
    repeat (first|refine zA ?_|refine zB rfl ?_|refine zC ?_|refine zD ?_|refine zE rfl ?_|refine zF ?_|refine zG ?_|refine zH ?_|refine zI ?_|refine zJ ?_|refine zK ?_|refine zL rfl ?_|refine zN rfl ?_)
    refine wp_ld (o := 3) H hp rfl ?_
    refine wp_lss_t (by omega) ?_
    repeat (first|refine zA ?_|refine zB rfl ?_|refine zC ?_|refine zD ?_|refine zE rfl ?_|refine zF ?_|refine zG ?_|refine zH ?_|refine zI ?_|refine zJ ?_|refine zK ?_|refine zL rfl ?_|refine zN rfl ?_)
    refine wp_ldn (o := 0) (n := 4) H hp rfl ?_
    repeat (first|refine zA ?_|refine zB rfl ?_|refine zC ?_|refine zD ?_|refine zE rfl ?_|refine zF ?_|refine zG ?_|refine zH ?_|refine zI ?_|refine zJ ?_|refine zK ?_|refine zL rfl ?_|refine zN rfl ?_)
    refine wp_ldn (o := 0) (n := 4) H hp rfl ?_
    repeat (first|refine zA ?_|refine zB rfl ?_|refine zC ?_|refine zD ?_|refine zE rfl ?_|refine zF ?_|refine zG ?_|refine zH ?_|refine zI ?_|refine zJ ?_|refine zK ?_|refine zL rfl ?_|refine zN rfl ?_)
    refine wp_callV H (dplace_ok hr0 hn) fun S5 H => ?_
    refine wp_gchk_t (wp_ckn (n := 4) (cs := r.cs) H hp rfl rfl rg_beq ?_)
    repeat (first|refine zA ?_|refine zB rfl ?_|refine zC ?_|refine zD ?_|refine zE rfl ?_|refine zF ?_|refine zG ?_|refine zH ?_|refine zI ?_|refine zJ ?_|refine zK ?_|refine zL rfl ?_|refine zN rfl ?_)
    refine wp_call (wpC_mono (at_ok H) fun u1 S6 q => ?_)
    obtain ⟨rfl, rfl⟩ := q
    rw [Me.wd_eq hx]
    have hw := x.wd_lt hx (r.place n)
    refine wp_gchk_t (wp_ckn (n := 4) (cs := r.cs) H hp rfl rfl rg_beq ?_)
    repeat (first|refine zA ?_|refine zB rfl ?_|refine zC ?_|refine zD ?_|refine zE rfl ?_|refine zF ?_|refine zG ?_|refine zH ?_|refine zI ?_|refine zJ ?_|refine zK ?_|refine zL rfl ?_|refine zN rfl ?_)
    refine wp_callV H (dlap_ok hr0 hn) fun S7 H => ?_
    repeat (first|refine zA ?_|refine zB rfl ?_|refine zC ?_|refine zD ?_|refine zE rfl ?_|refine zF ?_|refine zG ?_|refine zH ?_|refine zI ?_|refine zJ ?_|refine zK ?_|refine zL rfl ?_|refine zN rfl ?_)
    refine wp_call (wpC_mono (dfull_ok hw) fun u1 S8 q => ?_)
    obtain ⟨rfl, rfl⟩ := q
    repeat (first|refine zA ?_|refine zB rfl ?_|refine zC ?_|refine zD ?_|refine zE rfl ?_|refine zF ?_|refine zG ?_|refine zH ?_|refine zI ?_|refine zJ ?_|refine zK ?_|refine zL rfl ?_|refine zN rfl ?_)
    by_cases hf : slFull (x.wd (r.place n)) (r.lap n)
    · rw [decide_eq_true hf]
      repeat (first|refine zA ?_|refine zB rfl ?_|refine zC ?_|refine zD ?_|refine zE rfl ?_|refine zF ?_|refine zG ?_|refine zH ?_|refine zI ?_|refine zJ ?_|refine zK ?_|refine zL rfl ?_|refine zN rfl ?_)
      refine wp_bind ?_
      refine wp_ldn (o := 0) (n := 4) H hp rfl ?_
      refine wp_callV H (dplace_ok hr0 hn) fun S9 H => ?_
      refine wp_call (wpC_mono (at_ok H) fun u1 S10 q => ?_)
      obtain ⟨rfl, rfl⟩ := q
      rw [Me.wd_eq hx]
      refine wp_remU (b := 65536) (by omega) ?_
      refine wp_convI _ (by omega) ?_
      have hlen : (ints (d.map (valOf x r))).length = i := by rw [ints_len, List.length_map, hd]
      refine wp_push (L := ints (d.map (valOf x r))) H 2 rfl rfl rfl rfl (by rw [hlen]; unfold maxBytes; omega) (by rw [hlen]; unfold maxLenN; omega) fun u2 S11 H => ?_
      refine wp_addU ?_
      refine wp_ret ?_
      show wp EM _ _ _
      refine wp_ret (.inl ⟨rfl, _, u2, d ++ [n], rfl, Nat.mod_lt _ (by omega), by simp [hd], ?_, ?_⟩)
      · rw [hnum, show r.cp - i = (r.cp - (i + 1)) + 1 by omega, nums_yes hf]; simp
      · have e : ints ((d ++ [n]).map (valOf x r)) = ints (d.map (valOf x r)) ++ [[I (valOf x r n)]] := by simp [ints]
        rw [e]; exact H
    · rw [decide_eq_false hf]
      repeat (first|refine zA ?_|refine zB rfl ?_|refine zC ?_|refine zD ?_|refine zE rfl ?_|refine zF ?_|refine zG ?_|refine zH ?_|refine zI ?_|refine zJ ?_|refine zK ?_|refine zL rfl ?_|refine zN rfl ?_)
      refine wp_ret (.inr ⟨by simp, ?_⟩)
      show wp EM _ _ _
      rw [nums_no hf, List.append_nil] at hnum
      exact wp_ret ⟨rfl, stop (n := n) (by unfold ringVals; rw [hnum]; rfl) H⟩
  · rintro vs S4 ⟨n, u, d, rfl, hn, hd, hnum, H⟩
    refine wp_leno H 2 rfl ?_
    rw [ints_len, List.length_map, hd]
    repeat (first|refine zA ?_|refine zB rfl ?_|refine zC ?_|refine zD ?_|refine zE rfl ?_|refine zF ?_|refine zG ?_|refine zH ?_|refine zI ?_|refine zJ ?_|refine zK ?_|refine zL rfl ?_|refine zN rfl ?_)
    refine wp_ld (o := 3) H hp rfl ?_
    refine wp_lss_f (by omega) ?_
    repeat (first|refine zA ?_|refine zB rfl ?_|refine zC ?_|refine zD ?_|refine zE rfl ?_|refine zF ?_|refine zG ?_|refine zH ?_|refine zI ?_|refine zJ ?_|refine zK ?_|refine zL rfl ?_|refine zN rfl ?_)
    refine wp_gchk_f ?_
    repeat (first|refine zA ?_|refine zB rfl ?_|refine zC ?_|refine zD ?_|refine zE rfl ?_|refine zF ?_|refine zG ?_|refine zH ?_|refine zI ?_|refine zJ ?_|refine zK ?_|refine zL rfl ?_|refine zN rfl ?_)
    refine wp_gchk_f ?_
    repeat (first|refine zA ?_|refine zB rfl ?_|refine zC ?_|refine zD ?_|refine zE rfl ?_|refine zF ?_|refine zG ?_|refine zH ?_|refine zI ?_|refine zJ ?_|refine zK ?_|refine zL rfl ?_|refine zN rfl ?_)
    refine wp_ret ⟨by simp, ?_⟩
    show wp EM _ _ _
    rw [Nat.sub_self, show nums x r 0 n = [] from rfl, List.append_nil] at hnum
    exact wp_ret ⟨rfl, stop (n := n) (by unfold ringVals; rw [hnum]; rfl) H⟩
/-- how the program looks at a cell of the words that were copied -/
theorem atC_ok {b : Nat} {vw : AV} {a : Int} (hb : Fct.pt b 0 [vw] ∈ ro) (hv : Fct.sl vw 1 (uints x.ws) ∈ ro) (H : Cx B0 W S own ro) : wpC EM (.fn (.func 149) [] [.ptr b 0]) [I a] S fun u S' => u = U (x.word a) ∧ Grows S S' := by
  refine wpC_fn (b := Tryz.a149) rfl rfl ?_
  unfold Tryz.a149 Tryz.a149x0
  have out : ¬ x.has a → x.word a = 0 := fun h => if_neg h
  refine wp_lss (fun h0 => ?_) (fun h0 => ?_)
  · repeat (first|refine zA ?_|refine zB rfl ?_|refine zC ?_|refine zD ?_|refine zE rfl ?_|refine zF ?_|refine zG ?_|refine zH ?_|refine zI ?_|refine zJ ?_|refine zK ?_|refine zL rfl ?_|refine zN rfl ?_)
    exact wp_ret ⟨rfl, by rw [out (fun h => by have := h.1; omega)]; rfl, Grows.refl _⟩
  repeat (first|refine zA ?_|refine zB rfl ?_|refine zC ?_|refine zD ?_|refine zE rfl ?_|refine zF ?_|refine zG ?_|refine zH ?_|refine zI ?_|refine zJ ?_|refine zK ?_|refine zL rfl ?_|refine zN rfl ?_)
  refine wp_ld H hb rfl ?_
  repeat (first|refine zA ?_|refine zB rfl ?_|refine zC ?_|refine zD ?_|refine zE rfl ?_|refine zF ?_|refine zG ?_|refine zH ?_|refine zI ?_|refine zJ ?_|refine zK ?_|refine zL rfl ?_|refine zN rfl ?_)
  refine wp_len H hv ?_
  rw [uints_len]
  repeat (first|refine zA ?_|refine zB rfl ?_|refine zC ?_|refine zD ?_|refine zE rfl ?_|refine zF ?_|refine zG ?_|refine zH ?_|refine zI ?_|refine zJ ?_|refine zK ?_|refine zL rfl ?_|refine zN rfl ?_)
  refine wp_geq (fun h1 => ?_) (fun h1 => ?_)
  · repeat (first|refine zA ?_|refine zB rfl ?_|refine zC ?_|refine zD ?_|refine zE rfl ?_|refine zF ?_|refine zG ?_|refine zH ?_|refine zI ?_|refine zJ ?_|refine zK ?_|refine zL rfl ?_|refine zN rfl ?_)
    exact wp_ret ⟨rfl, by rw [out (fun h => by have := h.2; omega)]; rfl, Grows.refl _⟩
  repeat (first|refine zA ?_|refine zB rfl ?_|refine zC ?_|refine zD ?_|refine zE rfl ?_|refine zF ?_|refine zG ?_|refine zH ?_|refine zI ?_|refine zJ ?_|refine zK ?_|refine zL rfl ?_|refine zN rfl ?_)
  obtain ⟨n, rfl⟩ : ∃ n : Nat, a = (n : Int) := ⟨a.toNat, by omega⟩
  have hw : x.ws[n]? = some x.ws[n] := List.getElem?_eq_getElem (by omega)
  generalize x.ws[n] = z at hw
  refine wp_ld H hb rfl ?_
  refine wp_saddr H hv (uints_get? hw) fun id off H1 => ?_
  refine wp_load0 H1 (List.Mem.head _) rfl ?_
  exact wp_ret ⟨rfl, by rw [Me.word_eq hw]; rfl, Grows.refl _⟩
theorem beq_clo {f b : Nat} : AV.beq (.fn (.func f) [] [.ptr b 0]) (.fn (.func f) [] [.ptr b 0]) = true := by simp [AV.beq, beqs]
/-- the program's -/
theorem rall_ok (hx : x.good) (hrest : x.ws.length + rest.length = 4096) (hr : r.ok) (H : Cx B0 W S (pMem m bl x rest ++ R) ro) : wpC EM (.fn (.func 93) [] []) [.agg r.cs, .ptr m 0] S fun u S' => Cx B0 W S' (.sl u 1 (ints (ringVals x r)) :: (pMem m bl x rest ++ R)) ro := by
  refine wpC_fn (b := Tryz.a93) rfl rfl ?_
  have hr0 := hr
  unfold Rg.ok at hr
  unfold Tryz.a93 Tryz.a93x6 Tryz.a93x5 Tryz.a93x4 Tryz.a93x3 Tryz.a93x2 Tryz.a93x1 Tryz.a93x0
  refine wp_box H rfl fun p S1 H => ?_
  have H : Cx B0 W S1 (pMem m bl x rest ++ R) (.pt p 0 r.cs :: ro) := H
  refine wp_ldn (o := 0) (n := 4) H (List.Mem.head _) rfl ?_
  have hs : wpC EM (.fn (.func 148) [] []) [.agg r.cs] S1 fun r' S' => r' = B true ∧ Grows S1 S' := by
    refine wpC_fn (b := Tryz.a148) rfl rfl ?_
    clear H
    have H : Cx S1 [] S1 [] [] := Cx.enter (by simp)
    unfold Tryz.a148 Tryz.a148x0
    refine wp_box H rfl fun p S2 H => ?_
    repeat (first|refine zA ?_|refine zB rfl ?_|refine zC ?_|refine zD ?_|refine zE rfl ?_|refine zF ?_|refine zG ?_|refine zH ?_|refine zI ?_|refine zJ ?_|refine zK ?_|refine zL rfl ?_|refine zN rfl ?_)
    refine wp_ld (o := 3) (cs := r.cs) H (by repeat (first | exact List.Mem.head _ | apply List.Mem.tail)) rfl ?_
    refine wp_geq_t (by omega) ?_
    repeat (first|refine zA ?_|refine zB rfl ?_|refine zC ?_|refine zD ?_|refine zE rfl ?_|refine zF ?_|refine zG ?_|refine zH ?_|refine zI ?_|refine zJ ?_|refine zK ?_|refine zL rfl ?_|refine zN rfl ?_)
    refine wp_ld (o := 3) (cs := r.cs) H (by repeat (first | exact List.Mem.head _ | apply List.Mem.tail)) rfl ?_
    repeat (first|refine zA ?_|refine zB rfl ?_|refine zC ?_|refine zD ?_|refine zE rfl ?_|refine zF ?_|refine zG ?_|refine zH ?_|refine zI ?_|refine zJ ?_|refine zK ?_|refine zL rfl ?_|refine zN rfl ?_)
    refine wp_leq_t (by omega) ?_
    repeat (first|refine zA ?_|refine zB rfl ?_|refine zC ?_|refine zD ?_|refine zE rfl ?_|refine zF ?_|refine zG ?_|refine zH ?_|refine zI ?_|refine zJ ?_|refine zK ?_|refine zL rfl ?_|refine zN rfl ?_)
    exact wp_ret ⟨rfl, rfl, H.grows⟩
  refine wp_callV H hs fun S2 H => ?_
  refine wp_notT ?_
  repeat (first|refine zA ?_|refine zB rfl ?_|refine zC ?_|refine zD ?_|refine zE rfl ?_|refine zF ?_|refine zG ?_|refine zH ?_|refine zI ?_|refine zJ ?_|refine zK ?_|refine zL rfl ?_|refine zN rfl ?_)
  refine wp_call (wpC_mono (words_ok hx.1 hrest H) fun vw S3 H => ?_)
  have hvw : Fv vw := slOk_one (ownSl_ok (H.oh _ (List.Mem.head _)))
  have H := H.toRo (i := 0) rfl
  have H : Cx B0 W S3 (pMem m bl x rest ++ R) (.sl vw 1 (uints x.ws) :: .pt p 0 r.cs :: ro) := H
  refine wp_alloc H fun b6 S4 H => ?_
  refine wp_set1 (j := 0) H 0 rfl (by simp) hvw fun S5 H => ?_
  have H := H.freeze (i := 0) rfl
  have H : Cx B0 W S5 (pMem m bl x rest ++ R) (.pt b6 0 [vw] :: .sl vw 1 (uints x.ws) :: .pt p 0 r.cs :: ro) := H
  refine wp_alloc H fun b8 S6 H => ?_
  refine wp_set1 (j := 0) H 0 rfl (by simp) fvFn fun S7 H => ?_
  have H := H.freeze (i := 0) rfl
  have H : Cx B0 W S7 (pMem m bl x rest ++ R) (.pt b8 0 [.fn (.func 149) [] [.ptr b6 0]] :: .pt b6 0 [vw] :: .sl vw 1 (uints x.ws) :: .pt p 0 r.cs :: ro) := H
  refine wp_alloc H fun b10 S8 H => ?_
  have H := H.addNl 1
  have H : Cx B0 W S8 (.sl Ns 1 [] :: .obj b10 (.row [Ns]) :: (pMem m bl x rest ++ R)) (.pt b8 0 [.fn (.func 149) [] [.ptr b6 0]] :: .pt b6 0 [vw] :: .sl vw 1 (uints x.ws) :: .pt p 0 r.cs :: ro) := H
  refine wp_ldn (o := 0) (n := 4) (cs := r.cs) H (by repeat (first | exact List.Mem.head _ | apply List.Mem.tail)) rfl ?_
  refine wp_ld H (show Fct.pt b8 0 [.fn (.func 149) [] [.ptr b6 0]] ∈ _ by repeat (first | exact List.Mem.head _ | apply List.Mem.tail)) rfl ?_
  refine wp_call (wpC_fn (b := Tryz.a150) rfl rfl ?_)
  unfold Tryz.a150
  refine wp_box H rfl fun d1 S9 H => ?_
  refine wp_box H rfl fun d2 S9 H => ?_
  have H : Cx B0 W S9 (.sl Ns 1 [] :: .obj b10 (.row [Ns]) :: (pMem m bl x rest ++ R)) (.pt d2 0 [.fn (.func 149) [] [.ptr b6 0]] :: .pt d1 0 r.cs :: .pt b8 0 [.fn (.func 149) [] [.ptr b6 0]] :: .pt b6 0 [vw] :: .sl vw 1 (uints x.ws) :: .pt p 0 r.cs :: ro) := H
  generalize hro : (Fct.pt d2 0 [.fn (.func 149) [] [.ptr b6 0]] :: .pt d1 0 r.cs :: .pt b8 0 [.fn (.func 149) [] [.ptr b6 0]] :: .pt b6 0 [vw] :: .sl vw 1 (uints x.ws) :: .pt p 0 r.cs :: ro) = ro1 at H
  have m2 : Fct.pt d2 0 [.fn (.func 149) [] [.ptr b6 0]] ∈ ro1 := by rw [← hro]; exact (by repeat (first | exact List.Mem.head _ | apply List.Mem.tail))
  have m1 : Fct.pt d1 0 r.cs ∈ ro1 := by rw [← hro]; exact (by repeat (first | exact List.Mem.head _ | apply List.Mem.tail))
  have m8 : Fct.pt b8 0 [.fn (.func 149) [] [.ptr b6 0]] ∈ ro1 := by rw [← hro]; exact (by repeat (first | exact List.Mem.head _ | apply List.Mem.tail))
  have m6 : Fct.pt b6 0 [vw] ∈ ro1 := by rw [← hro]; exact (by repeat (first | exact List.Mem.head _ | apply List.Mem.tail))
  have mw : Fct.sl vw 1 (uints x.ws) ∈ ro1 := by rw [← hro]; exact (by repeat (first | exact List.Mem.head _ | apply List.Mem.tail))
  have mp : Fct.pt p 0 r.cs ∈ ro1 := by rw [← hro]; exact (by repeat (first | exact List.Mem.head _ | apply List.Mem.tail))
  have back : ∀ {S own}, Cx B0 W S own ro1 → Cx B0 W S own ro := fun H => H.dropRo (by rw [← hro]; exact fun φ h => List.mem_cons_of_mem _ (List.mem_cons_of_mem _ (List.mem_cons_of_mem _ (List.mem_cons_of_mem _ (List.mem_cons_of_mem _ (List.mem_cons_of_mem _ h))))))
  clear hro
  refine wp_ret ⟨rfl, ?_⟩
  show wp EM _ _ _
  have hw0 := x.wd_lt hx r.hd
  refine wp_bind (wp_rngX (Done := fun pd S' => pd = none ∧ ∃ s, Cx B0 W S' (.sl s 1 (ints (ringVals x r)) :: .obj b10 (.row [s]) :: (pMem m bl x rest ++ R)) ro1) H (by intro i e; cases e) ?_ ?_ ?_)
  · intro l S10 HL
    clear H
    have hyd : ∀ {n : Nat} {s : AV} {d : List Nat} {S6 : AH}, n < 18446744073709551616 → d.length < 4096 → Cx B0 W S6 (.obj l (.loop .ready none 1 fun v14 => .start (nth v14 0) (.bind (Tryz.a93x2 (.ptr p 0) (.ptr b8 0) (.ptr b10 0) v14) (some 1) (fun v15 => .ret .normal []) (fun v15 => []))) :: .sl s 1 (ints (d.map (valOf x r))) :: .obj b10 (.row [s]) :: (pMem m bl x rest ++ R)) ro1 →
        wpC EM (.yd l) [U (n : Int)] S6 fun v S' => v = B true ∧ ∃ s, Cx B0 W S' (.obj l (.loop .ready none 1 fun v14 => .start (nth v14 0) (.bind (Tryz.a93x2 (.ptr p 0) (.ptr b8 0) (.ptr b10 0) v14) (some 1) (fun v15 => .ret .normal []) (fun v15 => []))) :: .sl s 1 (ints ((d ++ [n]).map (valOf x r))) :: .obj b10 (.row [s]) :: (pMem m bl x rest ++ R)) ro1 := by
      intro n s d S6 hn hd H
      refine wpC_ydO H 0 rfl rfl ?_
      unfold Tryz.a93x2 Tryz.a93x1 Tryz.a93x0
      refine wp_startO H 0 rfl fun S7 H => ?_
      refine wp_bind ?_
      refine wp_row (j := 0) H 2 rfl rfl ?_
      refine wp_ld H m8 rfl ?_
      refine wp_ldn (o := 0) (n := 4) H mp rfl ?_
      refine wp_callV H (rplace_ok hr0 hn) fun S8 H => ?_
      refine wp_cko H 2 rfl rfl (beq_sl (ownSl_ok (H.oh _ (List.Mem.tail _ (List.Mem.head _))))) ?_
      refine wp_ck H m8 rfl beq_clo ?_
      refine wp_callV H (atC_ok m6 mw H) fun S9 H => ?_
      rw [Me.wd_eq hx]
      refine wp_cko H 2 rfl rfl (beq_sl (ownSl_ok (H.oh _ (List.Mem.tail _ (List.Mem.head _))))) ?_
      refine wp_call (wpC_mono (rvalue_ok (x.wd_lt hx _)) fun u S10 q => ?_)
      obtain ⟨rfl, rfl⟩ := q
      refine wp_cko H 2 rfl rfl (beq_sl (ownSl_ok (H.oh _ (List.Mem.tail _ (List.Mem.head _))))) ?_
      have hlen : (ints (d.map (valOf x r))).length = d.length := by rw [ints_len, List.length_map]
      refine wp_push (L := ints (d.map (valOf x r))) H 1 rfl rfl rfl rfl (by rw [hlen]; unfold maxBytes; omega) (by rw [hlen]; unfold maxLenN; omega) fun u2 S11 H => ?_
      have hu : Fv u2 := slOk_one (ownSl_ok (H.oh _ (List.Mem.tail _ (List.Mem.head _))))
      refine wp_set1 (j := 0) H 2 rfl (by simp) hu fun S12 H => ?_
      refine wp_ret ?_
      show wp EM _ _ _
      refine wp_ret ⟨rfl, _, _, H, rfl, fun S2 H => ⟨u2, ?_⟩⟩
      have e : ints ((d ++ [n]).map (valOf x r)) = ints (d.map (valOf x r)) ++ [[I (valOf x r n)]] := by simp [ints]
      rw [e]; exact H
    refine wpC_fn (b := Tryz.a222) rfl rfl ?_
    unfold Tryz.a222 Tryz.a222x6 Tryz.a222x5 Tryz.a222x4 Tryz.a222x3 Tryz.a222x2 Tryz.a222x1 Tryz.a222x0
    refine wp_ld HL m2 rfl ?_
    repeat (first|refine zA ?_|refine zB rfl ?_|refine zC ?_|refine zD ?_|refine zE rfl ?_|refine zF ?_|refine zG ?_|refine zH ?_|refine zI ?_|refine zJ ?_|refine zK ?_|refine zL rfl ?_|refine zN rfl ?_)
    refine wp_ld (o := 0) HL m1 rfl ?_
    refine wp_callV HL (atC_ok m6 mw HL) fun S11 HL => ?_
    rw [Me.wd_eq hx]
    repeat (first|refine zA ?_|refine zB rfl ?_|refine zC ?_|refine zD ?_|refine zE rfl ?_|refine zF ?_|refine zG ?_|refine zH ?_|refine zI ?_|refine zJ ?_|refine zK ?_|refine zL rfl ?_|refine zN rfl ?_)
    refine wp_ld (o := 3) HL m1 rfl ?_
    have fin : ∀ {s : AV} {d : List Nat} {S5 : AH}, ringVals x r = d.map (valOf x r) → Cx B0 W S5 (.obj l (.loop .ready none 1 fun v14 => .start (nth v14 0) (.bind (Tryz.a93x2 (.ptr p 0) (.ptr b8 0) (.ptr b10 0) v14) (some 1) (fun v15 => .ret .normal []) (fun v15 => []))) :: .sl s 1 (ints (d.map (valOf x r))) :: .obj b10 (.row [s]) :: (pMem m bl x rest ++ R)) ro1 →
        ∃ st pd m' b', S5.get l = some (.loop st pd m' b') ∧ st ≠ .busy ∧ ∀ S2, S2.next = S5.next → (∀ j, j ≠ l → S2.get j = S5.get j) → pd = none ∧ ∃ s, Cx B0 W S2 (.sl s 1 (ints (ringVals x r)) :: .obj b10 (.row [s]) :: (pMem m bl x rest ++ R)) ro1 := by
      intro s d S5 e H
      rw [e]
      exact ⟨.ready, none, 1, _, H.oh _ (List.Mem.head _), by simp, fun S2 g1 g2 => ⟨rfl, s, H.other (n := 0) rfl g1 g2⟩⟩
    refine wp_bind (wp_loop (wpL_for r.cp (fun i vs S' => ∃ n s d, vs = [I (i : Nat), U (n : Nat)] ∧ n < 18446744073709551616 ∧ d.length = i ∧ nums x r r.cp (x.wd r.hd) = d ++ nums x r (r.cp - i) n ∧ Cx B0 W S' (.obj l (.loop .ready none 1 fun v14 => .start (nth v14 0) (.bind (Tryz.a93x2 (.ptr p 0) (.ptr b8 0) (.ptr b10 0) v14) (some 1) (fun v15 => .ret .normal []) (fun v15 => []))) :: .sl s 1 (ints (d.map (valOf x r))) :: .obj b10 (.row [s]) :: (pMem m bl x rest ++ R)) ro1) ?_ ?_ ⟨_, Ns, [], rfl, hw0, rfl, rfl, HL⟩))
    · rintro i vs S12 hi ⟨n, s, d, rfl, hn, hd, hnum, H⟩
      refine wp_lss_t (by omega) ?_
      repeat (first|refine zA ?_|refine zB rfl ?_|refine zC ?_|refine zD ?_|refine zE rfl ?_|refine zF ?_|refine zG ?_|refine zH ?_|refine zI ?_|refine zJ ?_|refine zK ?_|refine zL rfl ?_|refine zN rfl ?_)
      refine wp_bind ?_
      refine wp_ld H m2 rfl ?_
      refine wp_ldn (o := 0) (n := 4) H m1 rfl ?_
      refine wp_ldn (o := 0) (n := 4) H m1 rfl ?_
      refine wp_callV H (rplace_ok hr0 hn) fun S13 H => ?_
      refine wp_ck H m2 rfl beq_clo ?_
      refine wp_ckn (n := 4) (cs := r.cs) H m1 rfl rfl rg_beq ?_
      refine wp_callV H (atC_ok m6 mw H) fun S14 H => ?_
      rw [Me.wd_eq hx]
      have hw := x.wd_lt hx (r.place n)
      refine wp_ckn (n := 4) (cs := r.cs) H m1 rfl rfl rg_beq ?_
      refine wp_callV H (rlap_ok hr0 hn) fun S15 H => ?_
      refine wp_call (wpC_mono (rfull_ok hw) fun u1 S16 q => ?_)
      obtain ⟨rfl, rfl⟩ := q
      refine wp_not ?_
      by_cases hf : slFull (x.wd (r.place n)) (r.lap n)
      · rw [decide_eq_true hf]
        repeat (first|refine zA ?_|refine zB rfl ?_|refine zC ?_|refine zD ?_|refine zE rfl ?_|refine zF ?_|refine zG ?_|refine zH ?_|refine zI ?_|refine zJ ?_|refine zK ?_|refine zL rfl ?_|refine zN rfl ?_)
        refine wp_call (wpC_mono (hyd hn (by omega) H) fun u2 S17 q => ?_)
        obtain ⟨rfl, s2, H⟩ := q
        repeat (first|refine zA ?_|refine zB rfl ?_|refine zC ?_|refine zD ?_|refine zE rfl ?_|refine zF ?_|refine zG ?_|refine zH ?_|refine zI ?_|refine zJ ?_|refine zK ?_|refine zL rfl ?_|refine zN rfl ?_)
        refine wp_notT ?_
        repeat (first|refine zA ?_|refine zB rfl ?_|refine zC ?_|refine zD ?_|refine zE rfl ?_|refine zF ?_|refine zG ?_|refine zH ?_|refine zI ?_|refine zJ ?_|refine zK ?_|refine zL rfl ?_|refine zN rfl ?_)
        refine wp_addU ?_
        refine wp_ret ?_
        show wp EM _ _ _
        refine wp_add64 (by omega) (by omega) ?_
        refine wp_ret (.inl ⟨rfl, _, s2, d ++ [n], rfl, Nat.mod_lt _ (by omega), by simp [hd], ?_, H⟩)
        rw [hnum, show r.cp - i = (r.cp - (i + 1)) + 1 by omega, nums_yes hf]; simp
      · rw [decide_eq_false hf]
        repeat (first|refine zA ?_|refine zB rfl ?_|refine zC ?_|refine zD ?_|refine zE rfl ?_|refine zF ?_|refine zG ?_|refine zH ?_|refine zI ?_|refine zJ ?_|refine zK ?_|refine zL rfl ?_|refine zN rfl ?_)
        refine wp_ret (.inr ⟨by simp, ?_⟩)
        rw [nums_no hf, List.append_nil] at hnum
        exact ⟨rfl, fin (by unfold ringVals; rw [hnum]; rfl) H⟩
    · rintro vs S12 ⟨n, s, d, rfl, hn, hd, hnum, H⟩
      refine wp_lss_f (by omega) ?_
      repeat (first|refine zA ?_|refine zB rfl ?_|refine zC ?_|refine zD ?_|refine zE rfl ?_|refine zF ?_|refine zG ?_|refine zH ?_|refine zI ?_|refine zJ ?_|refine zK ?_|refine zL rfl ?_|refine zN rfl ?_)
      refine wp_ret ⟨by simp, ?_⟩
      show wp EM _ _ _
      rw [Nat.sub_self, show nums x r 0 n = [] from rfl, List.append_nil] at hnum
      exact wp_ret ⟨rfl, fin (by unfold ringVals; rw [hnum]; rfl) H⟩
  · rintro S11 ⟨_, s, H⟩
    refine wp_ret ?_
    show wp EM _ _ _
    refine wp_row (j := 0) H 1 rfl rfl ?_
    exact wp_ret ⟨rfl, back (H.dropAt 1)⟩
  · rintro t S11 ⟨e, _⟩; cases e
end
end Go.Abs
