/- functions of this cut: what they compute, in the abstract machine. Conditions: stated in each theorem -/
import Derived.Test.YtdidccjcbfcklaaGreatM0
set_option linter.unusedVariables false
set_option linter.unusedSectionVars false
set_option linter.unusedSimpArgs false
namespace Go.Abs
variable [Ek]
open Go.Proofs
set_option maxRecDepth 100000
set_option linter.unusedVariables false
theorem allL_ok {x : Wl} (h : x.Ok) : ((List.range 11).flatMap fun l => (List.range 16).flatMap fun s => x.slot (l * 16 + s)) = x.L := by
  have hm : ∀ {k : Nat} {f : Fi}, f ∈ x.slot k → f ∈ x.L ∧ spt x.now f.tm = k := fun {k f} hf => by
    have := List.mem_filter.1 hf
    exact ⟨this.1, by simpa using this.2⟩
  have hlt : ∀ {i j : Nat} {f g : Fi}, i < j → f ∈ x.slot i → g ∈ x.slot j → f.lt g := fun {i j f g} hij hf hg => by
    have h1 := hm hf
    have h2 := hm hg
    exact .inl (spt_mono (now := x.now) (h.ge f h1.1) (h.ge g h2.1) (by omega))
  refine ord_ext ?_ h.ord fun f => ?_
  · refine List.pairwise_flatMap.2 ⟨fun l _ => List.pairwise_flatMap.2 ⟨fun s _ => h.ord.filter _, List.pairwise_lt_range.imp_of_mem fun {a b} ha hb hab f hf g hg => ?_⟩, List.pairwise_lt_range.imp_of_mem fun {a b} ha hb hab f hf g hg => ?_⟩
    · exact hlt (by omega) hf hg
    · obtain ⟨s, hs, hf⟩ := List.mem_flatMap.1 hf
      obtain ⟨t, ht, hg⟩ := List.mem_flatMap.1 hg
      have := List.mem_range.1 hs
      have := List.mem_range.1 ht
      exact hlt (by omega) hf hg
  · constructor
    · intro hf
      obtain ⟨l, _, hf⟩ := List.mem_flatMap.1 hf
      obtain ⟨s, _, hf⟩ := List.mem_flatMap.1 hf
      exact (hm hf).1
    · intro hf
      have hle : f.tm ≤ 1099511627776 := h.le f hf
      have hclk := h.clk
      have h1 := lev_le (now := x.now) (a := f.tm) (by omega) (by omega)
      have h2 := slo_lt16 x.now f.tm
      exact List.mem_flatMap.2 ⟨lev x.now f.tm, List.mem_range.2 (by omega), List.mem_flatMap.2 ⟨slo x.now f.tm, List.mem_range.2 h2, List.mem_filter.2 ⟨hf, by simp [spt]⟩⟩⟩
theorem aggs_flat (n : Nat) (g : Nat → List Fi) : ((List.range n).flatMap fun s => aggs (g s)) = aggs ((List.range n).flatMap g) := by
  unfold aggs; rw [List.map_flatMap]
theorem all_aggs (fs : Nat → List Fi) : (List.range 11).flatMap (lvl fs) = aggs ((List.range 11).flatMap fun l => (List.range 16).flatMap fun s => fs (l * 16 + s)) := by
  rw [← aggs_flat]
  congr 1
  funext l
  exact aggs_flat 16 _
theorem aggs_inj : ∀ {a b : List Fi}, aggs a = aggs b → a = b
  | [], [], _ => rfl
  | [], _ :: _, h => by cases h
  | _ :: _, [], h => by cases h
  | x :: a, y :: b, h => by
    unfold aggs at h
    simp only [List.map_cons, List.cons.injEq, AV.agg.injEq, Fi.cs] at h
    obtain ⟨x1, x2⟩ := x
    obtain ⟨y1, y2⟩ := y
    obtain ⟨h1, h2⟩ := h
    simp at h1
    have := aggs_inj (a := a) (b := b) h2
    have e1 : x1 = y1 := by omega
    have e2 : x2 = y2 := by omega
    rw [this, e1, e2]
theorem aggs_split {L : List Fi} {d r : List AV} {e : AV} (h : aggs L = d ++ e :: r) : ∃ D f R, L = D ++ f :: R ∧ d = aggs D ∧ e = .agg f.cs ∧ r = aggs R := by
  unfold aggs at h
  obtain ⟨D, L2, rfl, h1, h2⟩ := List.map_eq_append_iff.1 h
  obtain ⟨f, R, rfl, h3, h4⟩ := List.map_eq_cons_iff.1 h2
  exact ⟨D, f, R, rfl, h1.symm, h3.symm, h4.symm⟩
section
variable {B0 S : AH} {W : List Nat} {own : List Own} {ro : List Fct}
theorem append_ok {f : AV} {L : List Fi} {ok : List Own → Prop} (hD : Drives EM B0 W ro f (aggs L) ok) (hok : ∀ x own, ok own → ok (x :: own)) (hf : ∀ i, f ≠ .yd i) (hl : L.length < 1000000) (ho : ok own) (H : Cx B0 W S own ro) :
    wpC EM (.fn (.func 323) [] []) [Ns, f] S fun r S' => Cx B0 W S' (.sl r 2 (fis L) :: own) ro := by
  refine wpC_fn (b := Tryz.a323) rfl rfl ?_
  unfold Tryz.a323 
  have H0 : Cx B0 W S (.sl Ns 2 (fis []) :: own) ro := H.addOwn (Grows.refl S) (.inl ⟨rfl, rfl⟩) (fun id hid => by simp [Own.ids, vids] at hid)
  refine wp_boxOwn (x := Ns) H0 rfl fun bx S1 H1 => ?_
  refine wp_bind (wp_rngD hD hok hf (fun d own' => ∃ v D, d = aggs D ∧ D.length ≤ L.length ∧ own' = .obj bx (.row [v]) :: .sl v 2 (fis D) :: own) (fun _ _ => False) (fun d own' ⟨v, D, _, _, e⟩ => by rw [e]; exact hok _ _ (hok _ _ ho)) ?_ (E := []) ⟨Ns, [], rfl, by simp, rfl⟩ H1 ?_ ?_)
  · rintro l d e r hes E own2 S2 ro2 hro ⟨v, D, rfl, hDl, rfl⟩ H2
    obtain ⟨D', g, R, hL, hd, rfl, rfl⟩ := aggs_split hes
    have hDD := aggs_inj hd
    subst hDD
    unfold Tryz.a323x1 
    refine wp_round2 (x := I (g.id : Int)) (y := I (g.tm : Int)) H2 fun q S3 H3 => ?_
    have hLl : D.length + 1 ≤ L.length := by rw [hL]; simp
    refine wp_bind ?_
    unfold Tryz.a323x0 
    have hrow : (E ++ Own.obj l (.loop .busy none 1 fun v2 => Tryz.a323x1 (.ptr bx 0) v2) :: .obj bx (.row [v]) :: .sl v 2 (fis D) :: own)[E.length + 1]? = some (.obj bx (.row [v])) := app_get rfl
    have hsl : (E ++ Own.obj l (.loop .busy none 1 fun v2 => Tryz.a323x1 (.ptr bx 0) v2) :: .obj bx (.row [v]) :: .sl v 2 (fis D) :: own)[E.length + 2]? = some (.sl v 2 (fis D)) := app_get rfl
    refine wp_row H3 _ hrow rfl ?_
    refine wp_loada (n := 2) (id := q) (off := 0) (cs := g.cs) H3 (by repeat (first | exact List.Mem.head _ | apply List.Mem.tail)) (Nat.le_refl _) ?_
    refine wp_push (x := .agg g.cs) H3 _ hsl rfl rfl rfl (by rw [fis_len]; unfold maxBytes; omega) (by rw [fis_len]; unfold maxLenN; omega) fun v1 S4 H4 => ?_
    have e1 : (E ++ Own.obj l (.loop .busy none 1 fun v2 => Tryz.a323x1 (.ptr bx 0) v2) :: .obj bx (.row [v]) :: .sl v 2 (fis D) :: own).set (E.length + 2) (.sl v1 2 (fis D ++ [(AV.agg g.cs).cells])) = E ++ Own.obj l (.loop .busy none 1 fun v2 => Tryz.a323x1 (.ptr bx 0) v2) :: .obj bx (.row [v]) :: .sl v1 2 (fis (D ++ [g])) :: own := by
      rw [app_set]
      have : fis D ++ [(AV.agg g.cs).cells] = fis (D ++ [g]) := by rw [fis_app]; rfl
      rw [this]; rfl
    rw [e1] at H4
    have hs : slW S4 v1 2 (fis (D ++ [g])) := H4.oh _ (List.mem_append_right _ (List.Mem.tail _ (List.Mem.tail _ (List.Mem.head _))))
    have hrow4 : (E ++ Own.obj l (.loop .busy none 1 fun v2 => Tryz.a323x1 (.ptr bx 0) v2) :: .obj bx (.row [v]) :: .sl v1 2 (fis (D ++ [g])) :: own)[E.length + 1]? = some (.obj bx (.row [v])) := app_get rfl
    refine wp_set1 H4 _ hrow4 (by simp) (slW_one hs).1 (slW_one hs).2 fun S5 H5 => ?_
    rw [app_set] at H5
    refine wp_ret ?_
    show wp EM _ _ _
    refine wp_ret ⟨.obj bx (.row [v1]) :: .sl v1 2 (fis (D ++ [g])) :: own, H5.tl, .inl ⟨rfl, v1, D ++ [g], by simp [aggs], by simp; omega, rfl⟩⟩
  · rintro S2 own2 ⟨v, D, hd, hDl, rfl⟩ H2
    have hDD := aggs_inj hd
    subst hDD
    refine wp_ret ?_
    show wp EM _ _ _
    refine wp_row H2 0 rfl rfl ?_
    refine wp_ret ⟨rfl, ?_⟩
    exact H2.dropAt 0
  · intro t S2 own2 _ h
    cases h
theorem collect_ok {f : AV} {L : List Fi} {ok : List Own → Prop} (hD : Drives EM B0 W ro f (aggs L) ok) (hok : ∀ x own, ok own → ok (x :: own)) (hf : ∀ i, f ≠ .yd i) (hl : L.length < 1000000) (ho : ok own) (H : Cx B0 W S own ro) :
    wpC EM (.fn (.func 235) [] []) [f] S fun r S' => Cx B0 W S' (.sl r 2 (fis L) :: own) ro := by
  refine wpC_fn (b := Tryz.a235) rfl rfl ?_
  rw [Tryz.u235]
  refine wp_call (wpC_mono (append_ok hD hok hf hl ho H) fun v S1 H1 => ?_)
  exact wp_ret ⟨rfl, H1⟩
end
end Go.Abs
namespace Go.Abs
variable [Ek]
open Go.Proofs
set_option maxRecDepth 100000
set_option linter.unusedVariables false
/-! ### a wheel, as it stands -/
def fnd (L : List Fi) (k : Int) : Option Fi := L.find? (fun f => (f.id : Int) == k)
structure MapOk (Mp : List (Int × AV)) (L : List Fi) : Prop where
  nd : (Mp.map (·.1)).Nodup
  get : ∀ k : Int, mget Mp k = (fnd L k).map (fun f => .agg f.cs)
structure WRep (w : Nat) (x : Wl) (blk : List Own) : Prop where
  ok : x.Ok
  is : ∃ m vs Mp, MapOk Mp x.L ∧ blk = wOwn w m (wrow x.now m vs) Mp vs x.slot
theorem fnd_mem {L : List Fi} {k : Int} {f : Fi} (h : fnd L k = some f) : f ∈ L ∧ (f.id : Int) = k := ⟨List.mem_of_find?_eq_some h, by have := List.find?_some h; simpa using this⟩
theorem fnd_none {L : List Fi} {k : Int} (h : fnd L k = none) : ∀ f ∈ L, (f.id : Int) ≠ k := fun f hf => by have := List.find?_eq_none.1 h f hf; simpa using this
theorem Wl.Ok.fnd {x : Wl} (h : x.Ok) {f : Fi} (hf : f ∈ x.L) : Abs.fnd x.L (f.id : Int) = some f := by
  cases hq : Abs.fnd x.L (f.id : Int) with
  | none => exact absurd rfl (fnd_none hq f hf)
  | some g =>
    obtain ⟨h1, h2⟩ := fnd_mem hq
    rw [h.inj h1 hf (by omega)]
theorem Wl.Ok.rmv {x : Wl} (h : x.Ok) (id : Nat) : Wl.Ok ⟨x.now, rmv id x.L⟩ where
  clk := h.clk
  ord := h.ord.filter _
  nd := h.nd.sublist (List.filter_sublist.map _)
  ge := fun f hf => h.ge f (List.mem_filter.1 hf).1
  le := fun f hf => h.le f (List.mem_filter.1 hf).1
  id := fun f hf => h.id f (List.mem_filter.1 hf).1
theorem Wl.Ok.ins {x : Wl} (h : x.Ok) {f : Fi} (hn : ∀ g ∈ x.L, g.id ≠ f.id) (h1 : x.now ≤ f.tm) (h2 : f.tm ≤ 1099511627776) (h3 : f.id < 256) : Wl.Ok ⟨x.now, ins f x.L⟩ where
  clk := h.clk
  ord := ord_ins h.ord hn
  nd := by
    have : (Abs.ins f x.L).Perm (f :: x.L) := by
      generalize x.L = L
      induction L with
      | nil => exact .refl _
      | cons g r ih =>
        unfold Abs.ins
        split
        · exact .refl _
        · exact (ih.cons g).trans (.swap ..)
    refine (this.map (·.id)).nodup_iff.2 ?_
    simp only [List.map_cons, List.nodup_cons]
    exact ⟨fun hm => by obtain ⟨g, hg, e⟩ := List.mem_map.1 hm; exact hn g hg e, h.nd⟩
  ge := fun g hg => by rcases mem_ins.1 hg with rfl | hg; exact h1; exact h.ge g hg
  le := fun g hg => by rcases mem_ins.1 hg with rfl | hg; exact h2; exact h.le g hg
  id := fun g hg => by rcases mem_ins.1 hg with rfl | hg; exact h3; exact h.id g hg
theorem Wl.Ok.slot_len {x : Wl} (h : x.Ok) (k : Nat) : (x.slot k).length < 1000 := by
  have := h.len
  have := List.length_filter_le (fun f => spt x.now f.tm == k) x.L
  unfold Wl.slot
  omega
theorem slot_ins {x : Wl} (h : x.Ok) {f : Fi} (hn : ∀ g ∈ x.L, g.id ≠ f.id) : Wl.slot ⟨x.now, ins f x.L⟩ = upd x.slot (spt x.now f.tm) (ins f (x.slot (spt x.now f.tm))) := by
  funext k
  unfold upd
  split
  · next e =>
    subst e
    refine ord_ext ((ord_ins h.ord hn).filter _) (ord_ins (h.ord.filter _) fun g hg => hn g (List.mem_filter.1 hg).1) fun g => ?_
    rw [mem_ins]
    unfold Wl.slot
    simp only [List.mem_filter, mem_ins]
    constructor
    · rintro ⟨rfl | h1, h2⟩
      · exact .inl rfl
      · exact .inr ⟨h1, h2⟩
    · rintro (rfl | ⟨h1, h2⟩)
      · exact ⟨.inl rfl, by simp⟩
      · exact ⟨.inr h1, h2⟩
  · next e =>
    refine ord_ext ((ord_ins h.ord hn).filter _) (h.ord.filter _) fun g => ?_
    unfold Wl.slot
    simp only [List.mem_filter, mem_ins]
    constructor
    · rintro ⟨rfl | h1, h2⟩
      · exact absurd (by simpa using h2) (fun h : spt x.now g.tm = k => e h.symm)
      · exact ⟨h1, h2⟩
    · rintro ⟨h1, h2⟩
      exact ⟨.inr h1, h2⟩
theorem slot_rmv {x : Wl} (h : x.Ok) {f : Fi} (hf : f ∈ x.L) : ∃ pre suf, x.slot (spt x.now f.tm) = pre ++ f :: suf ∧ f ∉ pre ∧ f ∉ suf ∧ Wl.slot ⟨x.now, rmv f.id x.L⟩ = upd x.slot (spt x.now f.tm) (pre ++ suf) := by
  have hm : f ∈ x.slot (spt x.now f.tm) := List.mem_filter.2 ⟨hf, by simp⟩
  obtain ⟨pre, suf, e⟩ := List.append_of_mem hm
  have ho : Ord (x.slot (spt x.now f.tm)) := h.ord.filter _
  rw [e] at ho
  have h1 : f ∉ pre := fun hp => Fi.lt_irrefl f ((List.pairwise_append.1 ho).2.2 f hp f (by simp))
  have h2 : f ∉ suf := fun hp => Fi.lt_irrefl f ((List.pairwise_cons.1 (List.pairwise_append.1 ho).2.1).1 f hp)
  refine ⟨pre, suf, e, h1, h2, ?_⟩
  funext k
  have ho2 : Ord (pre ++ suf) := ho.sublist (List.Sublist.append (List.Sublist.refl _) (List.sublist_cons_self _ _))
  unfold upd
  split
  · next ek =>
    subst ek
    refine ord_ext ((h.ord.filter _).filter _) ho2 fun g => ?_
    have hg : g ∈ x.slot (spt x.now f.tm) ↔ g = f ∨ g ∈ pre ++ suf := by rw [e]; simp only [List.mem_append, List.mem_cons]; constructor <;> (rintro (h | h | h) <;> simp [h])
    constructor
    · intro hq
      obtain ⟨q1, q2⟩ := List.mem_filter.1 hq
      obtain ⟨q3, q4⟩ := List.mem_filter.1 q1
      rcases hg.1 (List.mem_filter.2 ⟨q3, q2⟩) with rfl | h
      · simp at q4
      · exact h
    · intro hq
      obtain ⟨q1, q2⟩ := List.mem_filter.1 (hg.2 (.inr hq))
      refine List.mem_filter.2 ⟨List.mem_filter.2 ⟨q1, ?_⟩, q2⟩
      have : g ≠ f := fun eq => by subst eq; rcases List.mem_append.1 hq with h | h; exact h1 h; exact h2 h
      simp only [bne_iff_ne]
      exact fun eq => this (h.inj q1 hf eq)
  · next ek =>
    refine ord_ext ((h.ord.filter _).filter _) (h.ord.filter _) fun g => ?_
    unfold Wl.slot Abs.rmv
    simp only [List.mem_filter]
    constructor
    · rintro ⟨⟨q1, _⟩, q2⟩
      exact ⟨q1, q2⟩
    · rintro ⟨q1, q2⟩
      refine ⟨⟨q1, ?_⟩, q2⟩
      simp only [bne_iff_ne]
      intro eq
      have := h.inj q1 hf eq
      subst this
      have q3 : spt x.now g.tm = k := by simpa using q2
      exact ek q3.symm
theorem MapOk.ins {Mp : List (Int × AV)} {L : List Fi} (h : MapOk Mp L) (f : Fi) (hn : ∀ g ∈ L, g.id ≠ f.id) : MapOk (mset Mp f.id (.agg f.cs)) (ins f L) where
  nd := mset_nodup h.nd _ _
  get := fun k => by
    rw [mget_mset]
    have hI : ∀ g, g ∈ Abs.ins f L ↔ g = f ∨ g ∈ L := fun g => mem_ins
    split
    · next e =>
      subst e
      cases hq : fnd (Abs.ins f L) (f.id : Int) with
      | none => exact absurd rfl (fnd_none hq f ((hI f).2 (.inl rfl)))
      | some g =>
        obtain ⟨q1, q2⟩ := fnd_mem hq
        rcases (hI g).1 q1 with rfl | q1
        · rfl
        · exact absurd (by omega) (hn g q1)
    · next e =>
      rw [h.get]
      congr 1
      have hu : ∀ L : List Fi, fnd (Abs.ins f L) k = fnd L k := by
        intro L
        induction L with
        | nil =>
          unfold Abs.ins fnd
          rw [List.find?_cons_of_neg (by simpa using e)]
        | cons g r ih =>
          unfold Abs.ins
          split
          · unfold fnd
            rw [List.find?_cons_of_neg (by simpa using e)]
          · unfold fnd at ih ⊢
            rw [List.find?_cons, List.find?_cons, ih]
      exact (hu L).symm
theorem MapOk.rmv {Mp : List (Int × AV)} {L : List Fi} (h : MapOk Mp L) (id : Nat) : MapOk (mdel Mp id) (rmv id L) where
  nd := mdel_nodup h.nd _
  get := fun k => by
    rw [mget_mdel h.nd]
    split
    · next e =>
      subst e
      cases hq : fnd (Abs.rmv id L) (id : Int) with
      | none => rfl
      | some g =>
        obtain ⟨q1, q2⟩ := fnd_mem hq
        have := (mem_rmv.1 q1).2
        omega
    · next e =>
      rw [h.get]
      congr 1
      generalize L = L
      induction L with
      | nil => rfl
      | cons g r ih =>
        unfold Abs.rmv fnd at ih ⊢
        by_cases hg : g.id = id
        · rw [List.filter_cons_of_neg (by simpa using hg), ← ih, List.find?_cons_of_neg (by simp; omega)]
        · rw [List.filter_cons_of_pos (by simpa using hg), List.find?_cons, List.find?_cons, ih]
theorem MapOk.same {Mp : List (Int × AV)} {L : List Fi} (h : MapOk Mp L) {f : Fi} (hf : fnd L (f.id : Int) = some f) : MapOk (mset Mp f.id (.agg f.cs)) L where
  nd := mset_nodup h.nd _ _
  get := fun k => by
    rw [mget_mset]
    split
    · next e => subst e; rw [hf]; rfl
    · exact h.get k
end Go.Abs
namespace Go.Abs
variable [Ek]
open Go.Proofs
set_option maxRecDepth 100000
set_option linter.unusedVariables false
section
variable {B0 S : AH} {W : List Nat} {E R : List Own} {ro : List Fct} {w : Nat} {x : Wl} {blk : List Own}
theorem typW : typc EM.P 100 = 1 := by kernel_rfl
theorem none_ok (h : WRep w x blk) (H : Cx B0 W S (E ++ (blk ++ R)) ro) : wpC EM (.fn (.func 58) [] []) [.ptr w 0] S fun r S' => r = B false ∧ Cx B0 W S' (E ++ (blk ++ R)) ro := by
  obtain ⟨ho, m, vs, Mp, hM, rfl⟩ := h
  refine wpC_fn (b := Tryz.a58) rfl rfl ?_
  rw [Tryz.u58]
  refine wp_op (e_ptrNil typW) ?_
  try(refine zz ?_;(repeat constructor);intro _)
  refine wp_row H _ wO_row (v := B true) rfl ?_
  try(refine zz ?_;(repeat constructor);intro _)
  refine wp_op (v := B false) rfl ?_
  skip
  try(refine zz ?_;(repeat constructor);intro _)
  exact wp_ret ⟨rfl, rfl, H⟩
theorem now_ok (h : WRep w x blk) (H : Cx B0 W S (E ++ (blk ++ R)) ro) : wpC EM (.fn (.func 29) [] []) [.ptr w 0] S fun r S' => r = I x.now ∧ Cx B0 W S' (E ++ (blk ++ R)) ro := by
  refine wpC_fn (b := Tryz.a29) rfl rfl ?_
  rw [Tryz.u29]
  refine wp_call (wpC_mono (none_ok h H) fun v S1 ⟨hv, H⟩ => ?_)
  subst hv
  obtain ⟨ho, m, vs, Mp, hM, rfl⟩ := h
  try(refine zz ?_;(repeat constructor);intro _)
  refine wp_row H _ wO_row (v := I x.now) rfl ?_
  exact wp_ret ⟨rfl, rfl, H⟩
def atR (x : Wl) (id : Int) : AV := match fnd x.L id with
  | some f => .tup [I f.tm, B true]
  | none => .tup [I 0, B false]
end
end Go.Abs
namespace Go.Abs
variable [Ek]
open Go.Proofs
set_option maxRecDepth 100000
set_option linter.unusedVariables false
section
variable {B0 S : AH} {W : List Nat} {E R : List Own} {ro : List Fct} {w : Nat} {x : Wl} {blk : List Own}
theorem time_ok {t : Int} : wpC EM (.fn (.func 82) [] []) [I t] S fun r S' => r = B (decide (0 ≤ t ∧ t ≤ 1099511627776)) ∧ Grows S S' := by
  refine wpC_fn (b := Tryz.a82) rfl rfl ?_
  rw [Tryz.u82]
  refine wp_geq (fun h => ?_) (fun h => ?_)
  · try(refine zz ?_;(repeat constructor);intro _)
    refine wp_leq (fun h2 => ?_) (fun h2 => ?_)
    · try(refine zz ?_;(repeat constructor);intro _)
      exact wp_ret ⟨rfl, by rw [decide_eq_true ⟨h, h2⟩]; rfl, Grows.refl _⟩
    · try(refine zz ?_;(repeat constructor);intro _)
      exact wp_ret ⟨rfl, by rw [decide_eq_false (by omega)]; rfl, Grows.refl _⟩
  · try(refine zz ?_;(repeat constructor);intro _)
    exact wp_ret ⟨rfl, by rw [decide_eq_false (by omega)]; rfl, Grows.refl _⟩
theorem putW (h : WRep w x blk) (H : Cx B0 W S (E ++ (blk ++ R)) ro) {f : Fi} (hn : ∀ g ∈ x.L, g.id ≠ f.id) (h1 : x.now ≤ f.tm) (h2 : f.tm ≤ 1099511627776) (h3 : f.id < 256) :
    wpC EM (.fn (.func 126) [] []) [.ptr w 0, .agg f.cs] S fun r S' => ∃ blk', WRep w ⟨x.now, ins f x.L⟩ blk' ∧ Cx B0 W S' (E ++ (blk' ++ R)) ro := by
  obtain ⟨ho, m, vs, Mp, hM, rfl⟩ := h
  refine wpC_mono (put_ok H ho.clk h2 (ho.ord.filter _) (fun g hg => hn g (List.mem_filter.1 hg).1) (ho.slot_len _)) fun r S1 ⟨_, vs', H1⟩ => ?_
  refine ⟨_, ⟨ho.ins hn h1 h2 h3, m, vs', _, hM.ins f hn, rfl⟩, ?_⟩
  rw [slot_ins ho hn]; exact H1
theorem takeW (h : WRep w x blk) (H : Cx B0 W S (E ++ (blk ++ R)) ro) {id : Nat} :
    wpC EM (.fn (.func 125) [] []) [.ptr w 0, I (id : Int)] S fun r S' => ∃ blk', WRep w ⟨x.now, rmv id x.L⟩ blk' ∧ Cx B0 W S' (E ++ (blk' ++ R)) ro := by
  obtain ⟨ho, m, vs, Mp, hM, rfl⟩ := h
  cases hq : fnd x.L (id : Int) with
  | none =>
    refine wpC_mono (take_none H (by rw [hM.get, hq]; rfl)) fun r S1 ⟨_, H1⟩ => ?_
    have : rmv id x.L = x.L := List.filter_eq_self.2 fun g hg => by
      have := fnd_none hq g hg
      simp only [bne_iff_ne]; omega
    rw [this]
    exact ⟨_, ⟨ho, m, vs, Mp, hM, rfl⟩, H1⟩
  | some f =>
    obtain ⟨hf, e⟩ := fnd_mem hq
    have e : f.id = id := by omega
    subst e
    obtain ⟨pre, suf, h1, h2, h3, h4⟩ := slot_rmv ho hf
    refine wpC_mono (take_ok H (by rw [hM.get, hq]; rfl) ho.clk (ho.le f hf) h1 h2 h3 (ho.slot_len _)) fun r S1 ⟨_, vs', H1⟩ => ?_
    refine ⟨_, ⟨ho.rmv f.id, m, vs', _, hM.rmv f.id, rfl⟩, ?_⟩
    rw [h4]; exact H1
def Wl.put (x : Wl) (f : Fi) : Wl := ⟨x.now, ins f (rmv f.id x.L)⟩
theorem Wl.Ok.put {x : Wl} (h : x.Ok) {f : Fi} (h1 : x.now ≤ f.tm) (h2 : f.tm ≤ 1099511627776) (h3 : f.id < 256) : (x.put f).Ok :=
  (h.rmv f.id).ins (fun g hg => (mem_rmv.1 hg).2) h1 h2 h3
def setE (x : Wl) (id at' : Int) : Int := if id < 0 ∨ 256 ≤ id ∨ at' < 0 ∨ 1099511627776 < at' then 3 else if at' < x.now then 13 else 0
def setX (x : Wl) (id at' : Int) : Wl := if setE x id at' = 0 then x.put ⟨id.toNat, at'.toNat⟩ else x
theorem set_ok (h : WRep w x blk) (H : Cx B0 W S (E ++ (blk ++ R)) ro) {id at' : Int} :
    wpC EM (.fn (.func 83) [] []) [.ptr w 0, I id, I at'] S fun r S' => r = I (setE x id at') ∧ ∃ blk', WRep w (setX x id at') blk' ∧ Cx B0 W S' (E ++ (blk' ++ R)) ro := by
  refine wpC_fn (b := Tryz.a83) rfl rfl ?_
  rw [Tryz.u83]
  refine wp_bind ?_
  refine wp_call (wpC_mono (none_ok h H) fun v S1 ⟨hv, H⟩ => ?_)
  subst hv
  have bad : ∀ (S : AH) (e : Int), e ≠ 0 → setE x id at' = e → Cx B0 W S (E ++ (blk ++ R)) ro → I e = I (setE x id at') ∧ ∃ blk', WRep w (setX x id at') blk' ∧ Cx B0 W S (E ++ (blk' ++ R)) ro := fun S e h0 he H => by
    refine ⟨by rw [he], blk, ?_, H⟩
    unfold setX
    rw [he, if_neg h0]; exact h
  have good : ∀ S, setE x id at' = 0 → Cx B0 W S (E ++ (blk ++ R)) ro → wp EM (.call (.fn (.func 125) [] []) [.ptr w 0, I id] fun v2 => .op (.build [(I 0), (I 0)] [(0, 1, I id), (1, 1, I at')]) fun v3 => .call (.fn (.func 126) [] []) [.ptr w 0, v3] fun v4 => .ret .ret [(I 0)]) S fun t vs S' => t = .ret ∧ oneOf vs = I (setE x id at') ∧ ∃ blk', WRep w (setX x id at') blk' ∧ Cx B0 W S' (E ++ (blk' ++ R)) ro := by
    intro S he H
    have hc : ¬ (id < 0 ∨ 256 ≤ id ∨ at' < 0 ∨ 1099511627776 < at') ∧ ¬ at' < x.now := by
      unfold setE at he
      split at he
      · cases he
      · split at he
        · cases he
        · constructor <;> assumption
    obtain ⟨i, rfl⟩ : ∃ i : Nat, id = (i : Int) := ⟨id.toNat, by omega⟩
    obtain ⟨t, rfl⟩ : ∃ t : Nat, at' = (t : Int) := ⟨at'.toNat, by omega⟩
    refine wp_call (wpC_mono (takeW h H) fun v S1 ⟨blk1, h1, H1⟩ => ?_)
    refine wp_op (v := .agg (Fi.mk i t).cs) rfl ?_
    refine wp_call (wpC_mono (putW (f := ⟨i, t⟩) h1 H1 (fun g hg => (mem_rmv.1 hg).2) (by show x.now ≤ t; omega) (by show t ≤ _; omega) (by show i < _; omega)) fun v S2 ⟨blk2, h2, H2⟩ => ?_)
    refine wp_ret ⟨rfl, by rw [he]; rfl, blk2, ?_, H2⟩
    unfold setX
    rw [if_pos he]
    exact h2
  try(refine zz ?_;(repeat constructor);intro _)
  skip
  refine wp_lss (fun h1 => ?_) (fun h1 => ?_)
  · try(refine zz ?_;(repeat constructor);intro _)
    refine wp_ret ⟨rfl, bad _ 3 (by omega) (by unfold setE; rw [if_pos (.inl h1)]) H⟩
  · try(refine zz ?_;(repeat constructor);intro _)
    refine wp_geq (fun h2 => ?_) (fun h2 => ?_)
    · try(refine zz ?_;(repeat constructor);intro _)
      refine wp_ret ⟨rfl, bad _ 3 (by omega) (by unfold setE; rw [if_pos (.inr (.inl h2))]) H⟩
    · try(refine zz ?_;(repeat constructor);intro _)
      refine wp_callV H time_ok fun S2 H => ?_
      skip
      try(refine zz ?_;(repeat constructor);intro _)
      by_cases ht : 0 ≤ at' ∧ at' ≤ 1099511627776
      · rw [decide_eq_true ht]
        refine wp_op (v := B false) rfl ?_
        try(refine zz ?_;(repeat constructor);intro _)
        obtain ⟨ho, m, vs, Mp, hM, rfl⟩ := h
        refine wp_row H _ wO_row (v := I x.now) rfl ?_
        refine wp_lss (fun h3 => ?_) (fun h3 => ?_)
        · try(refine zz ?_;(repeat constructor);intro _)
          refine wp_ret ⟨rfl, bad _ 13 (by omega) (by unfold setE; rw [if_neg (by omega), if_pos h3]) H⟩
        · try(refine zz ?_;(repeat constructor);intro _)
          refine wp_ret ?_
          exact good _ (by unfold setE; rw [if_neg (by omega), if_neg (by omega)]) H
      · rw [decide_eq_false ht]
        refine wp_op (v := B true) rfl ?_
        try(refine zz ?_;(repeat constructor);intro _)
        refine wp_ret ⟨rfl, bad _ 3 (by omega) (by unfold setE; rw [if_pos (by omega)]) H⟩
end
end Go.Abs
namespace Go.Abs
variable [Ek]
open Go.Proofs
set_option maxRecDepth 100000
set_option linter.unusedVariables false
section
variable {B0 S : AH} {W : List Nat} {own : List Own} {ro : List Fct}
theorem Cx.addNil (H : Cx B0 W S own ro) (es : Nat) : Cx B0 W S (.sl Ns es [] :: own) ro := H.addOwn (Grows.refl S) (.inl ⟨rfl, rfl⟩) (fun id hid => by simp [Own.ids, vids] at hid)
theorem Cx.addNils (H : Cx B0 W S own ro) (es n : Nat) : Cx B0 W S (List.replicate n (.sl Ns es []) ++ own) ro := by
  induction n with
  | zero => exact H
  | succ n ih => exact ih.addNil es
theorem range_const {α : Type} (n : Nat) (x : α) : (List.range n).map (fun _ => x) = List.replicate n x := by
  apply List.ext_getElem?
  intro j
  simp only [List.getElem?_map, List.getElem?_replicate]
  by_cases h : j < n <;> simp [h]
theorem Cx.clearSlots {E R : List Own} {w m : Nat} {row : List AV} {Mp : List (Int × AV)} {vs : Nat → AV} {fs : Nat → List Fi} (H : Cx B0 W S (E ++ (wOwn w m row Mp vs fs ++ R)) ro) :
    Cx B0 W S (E ++ (wOwn w m row Mp (fun _ => Ns) (fun _ => []) ++ R)) ro := by
  have H1 : Cx B0 W S (E ++ ([.obj w (.row row), .obj m (.map (ment Mp))] ++ R)) ro := by
    refine H.dropOwn (List.Sublist.append (List.Sublist.refl _) (List.Sublist.append ?_ (List.Sublist.refl _)))
    exact (List.Sublist.cons_cons _ (List.Sublist.cons_cons _ (List.nil_sublist _)))
  have H2 := H1.addNils 2 176
  refine H2.perm ?_
  unfold wOwn
  have e : ((List.range 176).map fun k => Own.sl Ns 2 (fis [])) = List.replicate 176 (.sl Ns 2 []) := range_const 176 _
  rw [e]
  generalize List.replicate 176 (Own.sl Ns 2 []) = N
  have p1 : (N ++ (E ++ ([Own.obj w (.row row), .obj m (.map (ment Mp))] ++ R))).Perm (E ++ (N ++ ([Own.obj w (.row row), .obj m (.map (ment Mp))] ++ R))) := List.perm_append_comm_assoc ..
  refine p1.trans (List.Perm.append_left _ ?_)
  have p2 : (N ++ ([Own.obj w (.row row), .obj m (.map (ment Mp))] ++ R)).Perm ([Own.obj w (.row row), .obj m (.map (ment Mp))] ++ (N ++ R)) := List.perm_append_comm_assoc ..
  exact p2
theorem wO_setRow0 {E R : List Own} {w m : Nat} {row row' : List AV} {Mp : List (Int × AV)} {vs : Nat → AV} {fs : Nat → List Fi} {y : Own} : (y :: (E ++ (wOwn w m row Mp vs fs ++ R))).set (E.length + 0 + 1) (.obj w (.row row')) = y :: (E ++ (wOwn w m row' Mp vs fs ++ R)) := congrArg (y :: ·) wO_setRow
theorem setRange_all {now m : Nat} {vs : Nat → AV} : setRange (wrow now m vs) 2 (List.replicate 176 Ns) = wrow now m (fun _ => Ns) := by
  apply List.ext_getElem?
  intro j
  rw [setRange_get (by rw [wrow_len]; simp)]
  simp only [List.length_replicate]
  by_cases h : 2 ≤ j ∧ j < 2 + 176
  · rw [if_pos h]
    obtain ⟨k, rfl⟩ : ∃ k, j = 2 + k := ⟨j - 2, by omega⟩
    rw [wrow_slot (by omega), Nat.add_sub_cancel_left, List.getElem?_replicate, if_pos (by omega)]
  · rw [if_neg h]
    by_cases h2 : j < 2
    · have : j = 0 ∨ j = 1 := by omega
      rcases this with rfl | rfl <;> rfl
    · obtain ⟨k, rfl⟩ : ∃ k, j = 178 + k := ⟨j - 178, by omega⟩
      unfold wrow
      rw [show 178 + k = (176 + k) + 1 + 1 by omega]
      simp only [List.getElem?_cons_succ]
      rw [List.getElem?_append_right (by simp), List.getElem?_append_right (by simp)]
      simp
variable {E R : List Own} {w : Nat} {x : Wl} {blk : List Own}
theorem move_ok (h : WRep w x blk) (H : Cx B0 W S (E ++ (blk ++ R)) ro) {to : Nat} (hto : to ≤ 1099511627776) (hge : ∀ f ∈ x.L, to ≤ f.tm) :
    wpC EM (.fn (.func 146) [] []) [.ptr w 0, I (to : Int)] S fun r S' => ∃ blk', WRep w ⟨to, x.L⟩ blk' ∧ Cx B0 W S' (E ++ (blk' ++ R)) ro := by
  refine wpC_fn (b := Tryz.a146) rfl rfl ?_
  obtain ⟨ho, m, vs, Mp, hM, rfl⟩ := h
  unfold Tryz.a146 Tryz.a146x3 Tryz.a146x2 Tryz.a146x1 Tryz.a146x0
  refine wp_call (wpC_fn (b := Tryz.a142) rfl rfl ?_)
  rw [Tryz.u142]
  refine wp_box (x := .ptr w 0) H rfl fun b1 S2 H => ?_
  refine wp_ret ⟨rfl, ?_⟩
  have hD := all_drives (B0 := B0) (W := W) (ro := .pt b1 0 [.ptr w 0] :: ro) (bw := b1) (w := w) (m := m) (now := x.now) (Mp := Mp) (vs := vs) (fs := x.slot) (by repeat (first | exact List.Mem.head _ | apply List.Mem.tail)) ho.slot_len
  rw [all_aggs, allL_ok ho] at hD
  refine wp_call (wpC_mono (collect_ok hD (fun y own h => h.cons y) (fun i h => by cases h) (by have := ho.len; omega) ⟨E, R, rfl⟩ H) fun v S3 H3 => ?_)
  refine wp_op (v := .agg (List.replicate 176 Ns)) rfl ?_
  try(refine zz ?_;(repeat constructor);intro _)
  have hlen := ho.len
  refine wp_store (n := 176) (c := wrow x.now m vs) (off := 2) H3 (E.length + 0 + 1) (by rw [List.getElem?_cons_succ]; exact wO_row) rfl (by show (List.replicate 176 Ns).length = 176; simp) (by rw [wrow_len]; omega) fun S4 H4 => ?_
  have e4 : (AV.agg (List.replicate 176 Ns)).cells = List.replicate 176 Ns := rfl
  rw [e4, setRange_all, wO_setRow0] at H4
  have H5 : Cx B0 W S4 (.sl v 2 (fis x.L) :: (E ++ (wOwn w m (wrow x.now m (fun _ => Ns)) Mp (fun _ => Ns) (fun _ => []) ++ R))) (.pt b1 0 [.ptr w 0] :: ro) := Cx.clearSlots (E := .sl v 2 (fis x.L) :: E) H4
  skip
  try(refine zz ?_;(repeat constructor);intro _)
  refine wp_set1 (c := wrow x.now m (fun _ => Ns)) (j := 0) (v := I (to : Int)) H5 (E.length + 0 + 1) (by rw [List.getElem?_cons_succ]; exact wO_row) (by rw [wrow_len]; omega) rfl rfl fun S6 H6 => ?_
  have e6 : (wrow x.now m (fun _ => Ns)).set 0 (I (to : Int)) = wrow to m (fun _ => Ns) := rfl
  rw [e6, wO_setRow0] at H6
  refine wp_leno H6 0 rfl ?_
  rw [fis_len]
  refine wp_bind ?_
  skip
  refine wp_loop (wpL_inv (fun k vs1 S1 => ∃ (i : Nat) (vs' : Nat → AV) (Mp' : List (Int × AV)), vs1 = [I (i : Int)] ∧ i ≤ x.L.length ∧ k = x.L.length - i ∧ MapOk Mp' x.L ∧ Cx B0 W S1 (.sl v 2 (fis x.L) :: (E ++ (wOwn w m (wrow to m vs') Mp' vs' (Wl.slot ⟨to, x.L.take i⟩) ++ R))) (.pt b1 0 [.ptr w 0] :: ro)) ?_ x.L.length ⟨0, _, Mp, rfl, by omega, by omega, hM, H6⟩)
  rintro k vs1 S1 ⟨i, vs', Mp', rfl, hi, rfl, hM', H⟩
  refine wp_lss (fun hlt => ?_) (fun hge2 => ?_)
  · have hlt : i < x.L.length := by omega
    try(refine zz ?_;(repeat constructor);intro _)
    skip
    refine wp_bind ?_
    refine wp_saddro (i := i) H 0 rfl (fis_get hlt) fun q qo hq => ?_
    refine wp_loadFn (j := 0) (n := 2) hq (Nat.le_refl _) ?_
    skip
    refine wp_tmp2 (x := I (x.L[i].id : Int)) (y := I (x.L[i].tm : Int)) H fun p S2 H => ?_
    refine wp_loada (n := 2) (id := p) (off := 0) (cs := x.L[i].cs) H (by repeat (first | exact List.Mem.head _ | apply List.Mem.tail)) (Nat.le_refl _) ?_
    have hmi : x.L[i] ∈ x.L := List.getElem_mem hlt
    have ho2 : Ord (x.L.take i) := ho.ord.sublist (List.take_sublist _ _)
    have hn : ∀ g ∈ x.L.take i, g.id ≠ x.L[i].id := by
      intro g hg e
      obtain ⟨j, hj, rfl⟩ := List.mem_iff_getElem.1 hg
      have hji : j < i := by rw [List.length_take] at hj; omega
      rw [List.getElem_take] at e
      have := ho.inj (List.getElem_mem (by omega)) hmi e
      exact Fi.lt_irrefl _ (this ▸ ord_get ho.ord hji hlt)
    have hle := ho.le _ hmi
    refine wp_call (wpC_mono (put_ok (E := .sl v 2 (fis x.L) :: E) (fs := Wl.slot ⟨to, x.L.take i⟩) H hto hle (ho2.filter _) (fun g hg => hn g (List.mem_filter.1 hg).1) (by
      have h1 := List.length_filter_le (fun f => spt to f.tm == spt to x.L[i].tm) (x.L.take i)
      have h2 := List.length_take (l := x.L) (i := i)
      unfold Wl.slot; simp only; omega)) fun r S3 ⟨_, vs2, H3⟩ => ?_)
    refine wp_ret ?_
    show wp EM _ _ _
    refine wp_add64 (by omega) (by omega) (wp_ret (.inl ⟨rfl, x.L.length - (i + 1), by omega, i + 1, vs2, _, rfl, by omega, rfl, hM'.same (ho.fnd hmi), ?_⟩))
    have hok2 : ∀ g ∈ x.L.take i, g.lt x.L[i] := by
      intro g hg
      obtain ⟨j, hj, rfl⟩ := List.mem_iff_getElem.1 hg
      have hji : j < i := by rw [List.length_take] at hj; omega
      rw [List.getElem_take]
      exact ord_get ho.ord hji hlt
    have e7 : upd (Wl.slot ⟨to, x.L.take i⟩) (spt to x.L[i].tm) (ins x.L[i] (Wl.slot ⟨to, x.L.take i⟩ (spt to x.L[i].tm))) = Wl.slot ⟨to, x.L.take (i + 1)⟩ := by
      have ei : x.L.take (i + 1) = x.L.take i ++ [x.L[i]] := List.take_succ_eq_append_getElem hlt
      funext k
      unfold upd
      split
      · next e =>
        subst e
        refine ord_ext (ord_ins (ho2.filter _) fun g hg => hn g (List.mem_filter.1 hg).1) ((ho.ord.sublist (List.take_sublist _ _)).filter _) fun g => ?_
        rw [mem_ins]
        unfold Wl.slot
        simp only [ei, List.mem_filter, List.mem_append, List.mem_singleton]
        constructor
        · rintro (rfl | ⟨h1, h2⟩)
          · exact ⟨.inr rfl, by simp⟩
          · exact ⟨.inl h1, h2⟩
        · rintro ⟨h1 | rfl, h2⟩
          · exact .inr ⟨h1, h2⟩
          · exact .inl rfl
      · next e =>
        unfold Wl.slot
        simp only [ei, List.filter_append]
        have : spt to x.L[i].tm ≠ k := fun h => e h.symm
        simp [this]
    rw [e7] at H3
    exact H3.tl
  · have : i = x.L.length := by omega
    subst this
    try(refine zz ?_;(repeat constructor);intro _)
    refine wp_ret (.inr ⟨by simp, ?_⟩)
    show wp EM _ _ _
    rw [List.take_length] at H
    refine wp_ret ⟨rfl, _, ⟨⟨hto, ho.ord, ho.nd, hge, ho.le, ho.id⟩, m, vs', Mp', hM', rfl⟩, ?_⟩
    exact (H.dropAt 0).tl
end
end Go.Abs
namespace Go.Abs
variable [Ek]
open Go.Proofs
set_option maxRecDepth 100000
set_option linter.unusedVariables false
section
variable {B0 S : AH} {W : List Nat} {ro : List Fct} {w : Nat}
theorem rmv_head {x : Wl} (h : x.Ok) {f : Fi} {L' : List Fi} (e : x.L = f :: L') : rmv f.id x.L = L' := by
  have hn := h.nd
  rw [e] at hn ⊢
  simp only [List.map_cons, List.nodup_cons] at hn
  unfold rmv
  rw [List.filter_cons_of_neg (by simp)]
  exact List.filter_eq_self.2 fun g hg => by
    simp only [bne_iff_ne]
    exact fun e2 => hn.1 (e2 ▸ List.mem_map.2 ⟨g, hg, rfl⟩)
theorem due_ok {bx bt : Nat} {to : Int} (hbx : Fct.pt bx 0 [.ptr w 0] ∈ ro) (hbt : Fct.pt bt 0 [I to] ∈ ro) {l : Nat} (K : Nat → Wl → List Own → List Own → Prop) (Stop : Wl → List Own → List Own → Prop)
    (hT : ∀ n x f L' E R, x.Ok → x.L = f :: L' → (f.tm : Int) ≤ to → K n x E R → ∀ E0 blk S ro', (∀ φ ∈ ro, φ ∈ ro') → WRep w ⟨x.now, L'⟩ blk → Cx B0 W S (E0 ++ (E ++ (blk ++ R))) ro' →
      wpC EM (.yd l) [.agg f.cs] S fun v S' => ∃ n' x' E' R' blk', WRep w x' blk' ∧ Cx B0 W S' (E0 ++ (E' ++ (blk' ++ R'))) ro' ∧ ((v = B true ∧ n' < n ∧ K n' x' E' R') ∨ (v = B false ∧ Stop x' E' R')))
    {n : Nat} {x : Wl} {blk E R E0 : List Own} (hK : K n x E R) (h : WRep w x blk) (H : Cx B0 W S (E0 ++ (E ++ (blk ++ R))) ro) :
    wpC EM (.fn (.func 234) [] [.ptr bx 0, .ptr bt 0]) [.yd l] S fun _ S' => ∃ x' E' R' blk', WRep w x' blk' ∧ Cx B0 W S' (E0 ++ (E' ++ (blk' ++ R'))) ro ∧ ((∃ n', K n' x' E' R' ∧ ∀ f ∈ x'.L, to < f.tm) ∨ Stop x' E' R') := by
  refine wpC_fn (b := Tryz.a234) rfl rfl ?_
  unfold Tryz.a234 
  refine wp_bind (wp_loop (wpL_inv (fun k vs1 S1 => ∃ x E R blk, vs1 = [] ∧ K k x E R ∧ WRep w x blk ∧ Cx B0 W S1 (E0 ++ (E ++ (blk ++ R))) ro) ?_ n ⟨x, E, R, blk, rfl, hK, h, H⟩))
  clear hK h H
  clear x E R blk
  rintro k vs1 S1 ⟨x, E, R, blk, rfl, hK, h, H⟩
  unfold Tryz.a234x6 
  refine wp_bind ?_
  refine wp_op (v := .agg [I 0, I 0]) rfl ?_
  refine wp_alloc H fun p S2 H => ?_
  refine wp_alloc H fun q S3 H => ?_
  unfold Tryz.a234x5 
  refine wp_store (c := [I 0, I 0]) (off := 0) (n := 2) (v := .agg [I 0, I 0]) H 1 rfl rfl rfl (by simp) fun S4 H => ?_
  refine wp_set1 (c := [B false]) (j := 0) (v := B false) H 0 rfl (by simp) rfl rfl fun S5 H => ?_
  refine wp_load0 H hbx rfl ?_
  refine wp_call (wpC_fn (b := Tryz.a142) rfl rfl ?_)
  rw [Tryz.u142]
  refine wp_box (x := .ptr w 0) H rfl fun b1 S6 H => ?_
  refine wp_ret ⟨rfl, ?_⟩
  have h0 := h
  obtain ⟨ho, m, vs, Mp, hM, rfl⟩ := h
  have hD := all_drives (B0 := B0) (W := W) (ro := .pt b1 0 [.ptr w 0] :: ro) (bw := b1) (w := w) (m := m) (now := x.now) (Mp := Mp) (vs := vs) (fs := x.slot) (by repeat (first | exact List.Mem.head _ | apply List.Mem.tail)) ho.slot_len
  rw [all_aggs, allL_ok ho] at hD
  let own0 := E0 ++ (E ++ (wOwn w m (wrow x.now m vs) Mp vs x.slot ++ R))
  have rest : ∀ (S : AH) (y : List AV) (b : Bool), (b = true → ∃ f L', x.L = f :: L' ∧ y = f.cs ∧ (f.tm : Int) ≤ to) → (b = false → ∀ f ∈ x.L, to < f.tm) → Cx B0 W S (.obj q (.row [B b]) :: .obj p (.row y) :: own0) ro →
      wp EM (Tryz.a234x4 [.yd l, .ptr bx 0, .ptr bt 0] (.ptr p 0) (.ptr q 0)) S fun t vs1 S1 => (t = .normal ∧ ∃ k', k' < k ∧ ∃ x E R blk, vs1 = [] ∧ K k' x E R ∧ WRep w x blk ∧ Cx B0 W S1 (E0 ++ (E ++ (blk ++ R))) ro) ∨
        (t = .ret ∧ vs1 = [] ∧ ∃ x' E' R' blk', WRep w x' blk' ∧ Cx B0 W S1 (E0 ++ (E' ++ (blk' ++ R'))) ro ∧ ((∃ n', K n' x' E' R' ∧ ∀ f ∈ x'.L, to < f.tm) ∨ Stop x' E' R')) := by
    intro S y b hy hn H
    unfold Tryz.a234x4 
    refine wp_row H 0 rfl rfl ?_
    cases b with
    | false =>
      refine wp_op (v := B true) rfl ?_
      try(refine zz ?_;(repeat constructor);intro _)
      exact wp_ret (.inr ⟨rfl, rfl, x, E, R, _, h0, (H.dropAt 0).dropAt 0, .inl ⟨k, hK, hn rfl⟩⟩)
    | true =>
      obtain ⟨f, L', hL, rfl, hle⟩ := hy rfl
      refine wp_op (v := B false) rfl ?_
      try(refine zz ?_;(repeat constructor);intro _)
      refine wp_load0 H hbx rfl ?_
      try(refine zz ?_;(repeat constructor);intro _)
      unfold Tryz.a234x3 
      refine wp_row (j := 0) (c := f.cs) H 1 rfl rfl ?_
      have H1 : Cx B0 W S ((.obj q (.row [B true]) :: .obj p (.row f.cs) :: (E0 ++ E)) ++ (wOwn w m (wrow x.now m vs) Mp vs x.slot ++ R)) ro := by
        rw [List.cons_append, List.cons_append, List.append_assoc]; exact H
      refine wp_call (wpC_mono (takeW h0 H1) fun v S2 ⟨blk2, h2, H2⟩ => ?_)
      rw [rmv_head ho hL] at h2
      refine wp_loadoa (c := f.cs) (off := 0) (n := 2) H2 1 rfl (Nat.le_refl _) ?_
      have H3 : Cx B0 W S2 ([.obj q (.row [B true]), .obj p (.row f.cs)] ++ E0 ++ (E ++ (blk2 ++ R))) ro := by
        have e : [.obj q (.row [B true]), .obj p (.row f.cs)] ++ E0 ++ (E ++ (blk2 ++ R)) = (.obj q (.row [B true]) :: .obj p (.row f.cs) :: (E0 ++ E)) ++ (blk2 ++ R) := by simp
        rw [e]; exact H2
      refine wp_call (wpC_mono (hT k x f L' E R ho hL hle hK _ blk2 S2 ro (fun φ h => h) h2 H3) fun v S3 ⟨n', x', E', R', blk', h4, H4, hq⟩ => ?_)
      have H5 : Cx B0 W S3 (E0 ++ (E' ++ (blk' ++ R'))) ro := (H4.dropAt 0).dropAt 0
      rcases hq with ⟨rfl, hlt, hK'⟩ | ⟨rfl, hs⟩
      · refine wp_op (v := B false) rfl ?_
        try(refine zz ?_;(repeat constructor);intro _)
        exact wp_ret (.inl ⟨rfl, n', hlt, x', E', R', blk', rfl, hK', h4, H5⟩)
      · refine wp_op (v := B true) rfl ?_
        try(refine zz ?_;(repeat constructor);intro _)
        exact wp_ret (.inr ⟨rfl, rfl, x', E', R', blk', h4, H5, .inr hs⟩)
  have cont : ∀ (S : AH) (y : List AV) (b : Bool), (b = true → ∃ f L', x.L = f :: L' ∧ y = f.cs ∧ (f.tm : Int) ≤ to) → (b = false → ∀ f ∈ x.L, to < f.tm) → Cx B0 W S (.obj q (.row [B b]) :: .obj p (.row y) :: own0) (.pt b1 0 [.ptr w 0] :: ro) → _ := fun S y b hy hn H => rest S y b hy hn H.tl
  refine wp_bind (wp_rngD hD (fun y own h => h.cons y) (fun i h => by cases h) (fun d own => d = [] ∧ own = .obj q (.row [B false]) :: .obj p (.row [I 0, I 0]) :: own0)
    (fun t own => t = .exit 6 ∧ ∃ f L', x.L = f :: L' ∧ own = .obj q (.row [B (decide ((f.tm : Int) ≤ to))]) :: .obj p (.row f.cs) :: own0)
    (fun d own ⟨_, e⟩ => by rw [e]; exact ⟨.obj q (.row [B false]) :: .obj p (.row [I 0, I 0]) :: (E0 ++ E), R, by simp [own0]⟩) ?_ (E := []) (own := .obj q (.row [B false]) :: .obj p (.row [I 0, I 0]) :: own0) ⟨rfl, rfl⟩ H ?_ ?_)
  · rintro l' d e r hes E' own2 S7 ro2 hro ⟨rfl, rfl⟩ H2
    obtain ⟨D', f, L', hL, hd, rfl, rfl⟩ := aggs_split hes
    have : D' = [] := by cases D' with
      | nil => rfl
      | cons _ _ => cases hd
    subst this
    have hL : x.L = f :: L' := hL
    refine wp_round2 (x := I (f.id : Int)) (y := I (f.tm : Int)) H2 fun b S8 H8 => ?_
    unfold Tryz.a234x1 
    refine wp_bind ?_
    refine wp_loada (n := 2) (id := b) (off := 0) (cs := f.cs) H8 (by repeat (first | exact List.Mem.head _ | apply List.Mem.tail)) (Nat.le_refl _) ?_
    try(refine zz ?_;(repeat constructor);intro _)
    refine wp_load1 (id := b) (j := 1) H8 (cs := f.cs) (by repeat (first | exact List.Mem.head _ | apply List.Mem.tail)) rfl ?_
    unfold Tryz.a234x0 
    have hbt2 : Fct.pt bt 0 [I to] ∈ ro2 := hro _ (List.mem_cons_of_mem _ hbt)
    refine wp_load0 H8 (List.mem_cons_of_mem _ hbt2) rfl ?_
    refine wp_op e_leq ?_
    refine wp_store (c := [I 0, I 0]) (off := 0) (n := 2) (v := .agg f.cs) H8 (E'.length + 2) (app_get rfl) rfl rfl (by simp) fun S9 H9 => ?_
    rw [app_set] at H9
    refine wp_chk1 (id := b) (off := 0) (j := 1) (cs := f.cs) H9 (by repeat (first | exact List.Mem.head _ | apply List.Mem.tail)) rfl beq_num ?_
    refine wp_chk1 (id := bt) (off := 0) (j := 0) (cs := [I to]) H9 (List.mem_cons_of_mem _ hbt2) rfl beq_num ?_
    refine wp_set1 (c := [B false]) (j := 0) (v := B (decide ((f.tm : Int) ≤ to))) H9 (E'.length + 1) (app_get rfl) (by simp) rfl rfl fun S10 H10 => ?_
    rw [app_set] at H10
    exact wp_ret ⟨_, H10.tl, .inr ⟨by simp, rfl, f, L', hL, rfl⟩⟩
  · rintro S7 own2 ⟨hd, rfl⟩ H7
    have hL : x.L = [] := by
      cases hx : x.L with
      | nil => rfl
      | cons _ _ => rw [hx] at hd; cases hd
    refine wp_ret ?_
    show wp EM _ _ _
    refine wp_mono (cont S7 _ false (fun h => by cases h) (fun _ f hf => by rw [hL] at hf; cases hf) H7) fun t vs1 S1 q => ?_
    rcases q with ⟨rfl, k', hk', x', E', R', blk', rfl, q⟩ | ⟨rfl, rfl, q⟩
    · show wp EM _ _ _
      exact wp_ret (.inl ⟨rfl, k', hk', x', E', R', blk', rfl, q⟩)
    · exact .inr ⟨by simp, rfl, q⟩
  · rintro t S7 own2 ht ⟨rfl, f, L', hL, rfl⟩ H7
    show wp EM _ _ _
    refine wp_mono (cont S7 _ (decide ((f.tm : Int) ≤ to)) (fun hb => ⟨f, L', hL, rfl, by simpa using hb⟩) (fun hb g hg => ?_) H7) fun t vs1 S1 q => ?_
    · have hb : to < f.tm := by simpa using hb
      have hord := ho.ord
      rw [hL] at hg hord
      rcases List.mem_cons.1 hg with rfl | hg
      · exact hb
      · have := (List.pairwise_cons.1 hord).1 g hg
        unfold Fi.lt at this
        omega
    · rcases q with ⟨rfl, k', hk', x', E', R', blk', rfl, q⟩ | ⟨rfl, rfl, q⟩
      · show wp EM _ _ _
        exact wp_ret (.inl ⟨rfl, k', hk', x', E', R', blk', rfl, q⟩)
      · exact .inr ⟨by simp, rfl, q⟩
end
end Go.Abs
namespace Go.Abs
variable [Ek]
open Go.Proofs
set_option maxRecDepth 100000
set_option linter.unusedVariables false
section
variable {B0 S : AH} {W : List Nat} {ro : List Fct} {w : Nat} {Q : Post}
theorem wp_rngDue {bx bt : Nat} {to : Int} (hbx : Fct.pt bx 0 [.ptr w 0] ∈ ro) (hbt : Fct.pt bt 0 [I to] ∈ ro) {body : List AV → AC} {kk : AC} {outs : List AV} (K : Nat → Wl → List Own → List Own → Prop) (Stop : Tag → Wl → List Own → List Own → Prop)
    (hb : ∀ l n x f L' E R, x.Ok → x.L = f :: L' → (f.tm : Int) ≤ to → K n x E R → ∀ E0 blk S ro', (∀ φ ∈ ro, φ ∈ ro') → WRep w ⟨x.now, L'⟩ blk → Cx B0 W S (E0 ++ .obj l (.loop .ready none 1 body) :: (E ++ (blk ++ R))) ro' →
      wp EM (body [.yd l, .agg f.cs]) S fun t _ S' => ∃ n' x' E' R' blk', WRep w x' blk' ∧ Cx B0 W S' (E0 ++ .obj l (.loop .busy none 1 body) :: (E' ++ (blk' ++ R'))) ro' ∧ ((t = .normal ∧ n' < n ∧ K n' x' E' R') ∨ (t ≠ .normal ∧ Stop t x' E' R')))
    {n : Nat} {x : Wl} {blk E R E0 : List Own} (hK : K n x E R) (h : WRep w x blk) (H : Cx B0 W S (E0 ++ (E ++ (blk ++ R))) ro)
    (hk : ∀ S n' x' E' R' blk', K n' x' E' R' → (∀ f ∈ x'.L, to < f.tm) → WRep w x' blk' → Cx B0 W S (E0 ++ (E' ++ (blk' ++ R'))) ro → wp EM kk S Q)
    (hs : ∀ t S x' E' R' blk', t ≠ .normal → Stop t x' E' R' → WRep w x' blk' → Cx B0 W S (E0 ++ (E' ++ (blk' ++ R'))) ro → Q t outs S) :
    wp EM (.rng 1 (.fn (.func 234) [] [.ptr bx 0, .ptr bt 0]) body kk outs) S Q := by
  refine wp_rng (fun i h => by cases h) ?_
  have H1 : Cx B0 W (S.new (.loop .ready none 1 body)) (.obj S.next (.loop .ready none 1 body) :: (E0 ++ (E ++ (blk ++ R)))) ro := H.addOwn (Grows.new S _) (get_new_same _ _) (fun j hj => by
    simp only [Own.ids, List.mem_singleton] at hj
    subst hj
    exact ⟨Nat.le_refl _, by simp⟩)
  replace H1 : Cx B0 W (S.new (.loop .ready none 1 body)) (E0 ++ ((.obj S.next (.loop .ready none 1 body) :: E) ++ (blk ++ R))) ro := H1.perm List.perm_middle.symm
  generalize hl : S.next = l at H1
  refine wpC_mono (due_ok hbx hbt (l := l) (fun n x E R => ∃ E1, E = .obj l (.loop .ready none 1 body) :: E1 ∧ K n x E1 R) (fun x E R => ∃ t E1, t ≠ .normal ∧ E = .obj l (.loop .done (some t) 1 body) :: E1 ∧ Stop t x E1 R) ?_ ⟨E, rfl, hK⟩ h H1) ?_
  · rintro n x f L' E R ho hL hle ⟨E1, rfl, hK⟩ E0 blk S ro' hro h H
    have hm : (E0 ++ Own.obj l (.loop .ready none 1 body) :: (E1 ++ (blk ++ R)))[E0.length]? = some (.obj l (.loop .ready none 1 body)) := by simp
    refine wpC_yd (H.oh _ (List.mem_of_getElem? hm)) rfl (wp_mono (hb l n x f L' E1 R ho hL hle hK E0 blk S ro' hro h H) fun t vs S' q => ?_)
    obtain ⟨n', x', E', R', blk', h', H', q⟩ := q
    have hm' : (E0 ++ Own.obj l (.loop .busy none 1 body) :: (E' ++ (blk' ++ R')))[E0.length]? = some (.obj l (.loop .busy none 1 body)) := by simp
    have hset : ∀ o, (E0 ++ Own.obj l (.loop .busy none 1 body) :: (E' ++ (blk' ++ R'))).set E0.length (.obj l o) = E0 ++ ((Own.obj l o :: E') ++ (blk' ++ R')) := by intro o; simp
    refine ⟨none, 1, body, H'.oh _ (List.mem_of_getElem? hm'), ?_⟩
    rcases q with ⟨rfl, hlt, q⟩ | ⟨ht, q⟩
    · have K := H'.setOb hm' (.loop .ready none 1 body)
      rw [hset] at K
      exact ⟨n', x', _, R', blk', h', K, .inl ⟨rfl, hlt, E', rfl, q⟩⟩
    · have K := H'.setOb hm' (.loop .done (some t) 1 body)
      rw [hset] at K
      cases t with
      | normal => exact absurd rfl ht
      | _ => exact ⟨n', x', _, R', blk', h', K, .inr ⟨rfl, _, E', ht, rfl, q⟩⟩
  · rintro v S' ⟨x', E', R', blk', h', H', q⟩
    have drop : ∀ o E1, Cx B0 W S' (E0 ++ ((.obj l o :: E1) ++ (blk' ++ R'))) ro → ∀ o', Cx B0 W (S'.set l o') (E0 ++ (E1 ++ (blk' ++ R'))) ro := by
      intro o E1 H o'
      have H : Cx B0 W S' (E0 ++ .obj l o :: (E1 ++ (blk' ++ R'))) ro := H
      have hm : (E0 ++ Own.obj l o :: (E1 ++ (blk' ++ R')))[E0.length]? = some (.obj l o) := by simp
      have K := (H.setOb hm o').dropAt E0.length
      have : ((E0 ++ Own.obj l o :: (E1 ++ (blk' ++ R'))).set E0.length (.obj l o')).eraseIdx E0.length = E0 ++ (E1 ++ (blk' ++ R')) := by
        rw [List.set_append_right _ _ (Nat.le_refl _), Nat.sub_self, List.set_cons_zero, List.eraseIdx_append_of_length_le (Nat.le_refl _), Nat.sub_self, List.eraseIdx_cons_zero]
      rw [this] at K; exact K
    rcases q with ⟨n', ⟨E1, rfl, hK'⟩, hd⟩ | ⟨t, E1, ht, rfl, hS⟩
    · refine ⟨.ready, none, 1, body, H'.oh _ (List.mem_append_right _ (List.Mem.head _)), by simp, ?_⟩
      exact hk _ n' x' E1 R' blk' hK' hd h' (drop _ _ H' _)
    · refine ⟨.done, some t, 1, body, H'.oh _ (List.mem_append_right _ (List.Mem.head _)), by simp, ?_⟩
      exact hs t _ x' E1 R' blk' ht hS h' (drop _ _ H' _)
variable {E R : List Own} {x : Wl} {blk : List Own}
def mayE (x : Wl) (to : Int) : Int := if 0 ≤ to ∧ to ≤ 1099511627776 then (if to < x.now then 9 else 0) else 3
theorem may_ok (h : WRep w x blk) (H : Cx B0 W S (E ++ (blk ++ R)) ro) {to : Int} : wpC EM (.fn (.func 144) [] []) [.ptr w 0, I to] S fun r S' => r = I (mayE x to) ∧ Cx B0 W S' (E ++ (blk ++ R)) ro := by
  refine wpC_fn (b := Tryz.a144) rfl rfl ?_
  obtain ⟨ho, m, vs, Mp, hM, rfl⟩ := h
  rw [Tryz.u144]
  refine wp_bind ?_
  refine wp_callV H time_ok fun S1 H => ?_
  unfold mayE
  by_cases ht : 0 ≤ to ∧ to ≤ 1099511627776
  · rw [decide_eq_true ht, if_pos ht]
    refine wp_op (v := B false) rfl ?_
    try(refine zz ?_;(repeat constructor);intro _)
    refine wp_row H _ wO_row (v := I x.now) rfl ?_
    refine wp_lss (fun h3 => ?_) (fun h3 => ?_)
    · try(refine zz ?_;(repeat constructor);intro _)
      rw [if_pos h3]
      exact wp_ret ⟨rfl, rfl, H⟩
    · try(refine zz ?_;(repeat constructor);intro _)
      rw [if_neg (by omega)]
      refine wp_ret ?_
      show wp EM _ _ _
      exact wp_ret ⟨rfl, rfl, H⟩
  · rw [decide_eq_false ht, if_neg ht]
    refine wp_op (v := B true) rfl ?_
    try(refine zz ?_;(repeat constructor);intro _)
    exact wp_ret ⟨rfl, rfl, H⟩
end
end Go.Abs
namespace Go.Abs.Tsk
variable [Ek]
open Go.Proofs
set_option maxRecDepth 100000

structure Tk where
  kind : Int
  prio : Int
  every : Int
  first : Int
def Tk.cs (x : Tk) : List AV := [I x.kind, I x.prio, I x.every, I x.first]
def tks (l : List Tk) : List (List AV) := l.map Tk.cs
theorem tks_len (l : List Tk) : (tks l).length = l.length := List.length_map ..
theorem tks_get {l : List Tk} {i : Nat} (hi : i < l.length) : (tks l)[i]? = some (l[i].cs) := by simp [tks, hi]

def tone (x : Tk) : Int := if x.kind ≠ 1 ∧ x.kind ≠ 2 then 5 else
  if x.prio < 0 ∨ 254 < x.prio ∨ x.every < 0 ∨ (x.kind = 1 ∧ x.every < 1) ∨ 1099511627776 < x.every ∨ x.first < 0 ∨ 1099511627776 < x.first ∨ (x.kind = 2 ∧ x.first ≠ 0) then 3 else 0

set_option maxHeartbeats 4000000 in
theorem one_ok {S : AH} {x : Tk} : wpC EM (.fn (.func 59) [] []) [.agg x.cs] S fun r S' => r = I (tone x) ∧ Grows S S' := by
  refine wpC_fn (b := Tryz.a59) rfl rfl ?_
  have H : Cx S [] S [] [] := Cx.enter (by simp)
  rw [Tryz.u59]
  refine wp_box H rfl fun b S1 H => ?_
  repeat' (first | (first|refine zA ?_|refine zB rfl ?_|refine zC ?_|refine zD ?_|refine zE rfl ?_|refine zF ?_|refine zG ?_|refine zH ?_|refine zI ?_|refine zJ ?_|refine zK ?_|refine zL rfl ?_|refine zN rfl ?_) | refine wp_bind ?_ | refine wp_load1 H (by repeat (first | exact List.Mem.head _ | apply List.Mem.tail)) rfl ?_ | (refine wp_ret ?_; show wp EM _ _ _) | refine wp_lss (fun _ => ?_) (fun _ => ?_) | refine wp_gtr (fun _ => ?_) (fun _ => ?_) | refine wp_leq (fun _ => ?_) (fun _ => ?_) | refine wp_geq (fun _ => ?_) (fun _ => ?_) | refine wp_eql (fun _ => ?_) (fun _ => ?_) | refine wp_neq (fun _ => ?_) (fun _ => ?_))
  all_goals first
    | exact wp_ret ⟨rfl, congrArg I (by unfold tone; split <;> (try split) <;> omega), H.grows⟩
end Go.Abs.Tsk
namespace Go.Abs.Tsk
variable [Ek]
open Go.Proofs
set_option maxRecDepth 100000
def tfirst : List Tk → Int
  | [] => 0
  | x :: l => if tone x = 0 then tfirst l else tone x
def tchk (l : List Tk) : Int := if 32 < l.length then 4 else tfirst l
theorem tfirst_drop {l : List Tk} {i : Nat} (hi : i < l.length) : tfirst (l.drop i) = if tone l[i] = 0 then tfirst (l.drop (i + 1)) else tone l[i] := by
  rw [List.drop_eq_getElem_cons hi]; rfl

theorem check_ok {S : AH} {v : AV} {l : List Tk} (hv : RoSl S v 4 (tks l)) : wpC EM (.fn (.func 30) [] []) [v] S fun r S' => r = I (tchk l) ∧ Grows S S' := by
  refine wpC_fn (b := Tryz.a30) rfl rfl ?_
  have H := Cx.ro1 hv
  rw [Tryz.u30]
  refine wp_len H (by repeat (first | exact List.Mem.head _ | apply List.Mem.tail)) ?_
  rw [tks_len]
  unfold tchk
  refine wp_gtr (fun hlt => ?_) (fun hge => ?_)
  · try(refine zz ?_;(repeat constructor);intro _)
    refine wp_ret ⟨rfl, ?_, H.grows⟩
    rw [if_pos (by omega)]; rfl
  · rw [if_neg (by omega)]
    try(refine zz ?_;(repeat constructor);intro _)
    refine wp_len H (by repeat (first | exact List.Mem.head _ | apply List.Mem.tail)) ?_
    rw [tks_len]
    refine wp_bind (wp_loop (wpL_for l.length (fun i vs S1 => ∃ u : AV, vs = [I (i : Int), u] ∧ tfirst (l.drop i) = tfirst l ∧ Cx S [] S1 [] [.sl v 4 (tks l)]) ?_ ?_ ⟨_, rfl, rfl, H⟩))
    · rintro i vs S1 hlt ⟨u, rfl, hc, H⟩
      rw [tfirst_drop hlt] at hc
      refine wp_lss_t (by omega) ?_
      try(refine zz ?_;(repeat constructor);intro _)
      refine wp_bind ?_
      refine wp_saddr (i := i) H (by repeat (first | exact List.Mem.head _ | apply List.Mem.tail)) (tks_get hlt) fun p off H => ?_
      refine wp_loada H (cs := l[i].cs) (by repeat (first | exact List.Mem.head _ | apply List.Mem.tail)) (Nat.le_of_ble_eq_true rfl) ?_
      refine wp_alloc H fun b S3 H => ?_
      refine wp_store H 0 rfl rfl rfl (Nat.le_of_ble_eq_true rfl) fun S4 H => ?_
      replace H : Cx S [] S4 [] [.pt b 0 l[i].cs, .pt p off l[i].cs, .sl v 4 (tks l)] := H.freeze (i := 0) (c := l[i].cs) rfl
      refine wp_loada H (cs := l[i].cs) (by repeat (first | exact List.Mem.head _ | apply List.Mem.tail)) (Nat.le_of_ble_eq_true rfl) ?_
      refine wp_callV H one_ok fun S5 H => ?_
      refine wp_neq (fun hne => ?_) (fun he => ?_)
      · rw [if_neg hne] at hc
        try(refine zz ?_;(repeat constructor);intro _)
        exact wp_ret (.inr ⟨by simp, rfl, by rw [← hc]; rfl, H.grows⟩)
      · rw [if_pos he] at hc
        try(refine zz ?_;(repeat constructor);intro _)
        refine wp_ret ?_
        show wp EM _ _ _
        exact wp_add64 (by omega) (by omega) (wp_ret (.inl ⟨rfl, _, rfl, hc, H.tl.tl⟩))
    · rintro vs S1 ⟨u, rfl, hc, H⟩
      refine wp_lss_f (by omega) ?_
      try(refine zz ?_;(repeat constructor);intro _)
      refine wp_ret ⟨by simp, wp_ret ⟨rfl, ?_, H.grows⟩⟩
      rw [List.drop_length] at hc
      rw [← hc]; rfl
/-! times -/
def timed (x : Tk) : Bool := decide (x.kind = 1 ∧ tone x = 0)
structure TOk (f e : Int) : Prop where
  f0 : 0 ≤ f
  f1 : f ≤ 1099511627776
  e0 : 1 ≤ e
  e1 : e ≤ 1099511627776
theorem timed_ok {x : Tk} (h : timed x = true) : TOk x.first x.every := by
  unfold timed at h
  have h := of_decide_eq_true h
  obtain ⟨h1, h2⟩ := h
  unfold tone at h2
  rw [if_neg (by omega)] at h2
  split at h2
  · cases h2
  · exact ⟨by omega, by omega, by omega, by omega⟩
def cl (f e : Int) : AV := .agg [I f, I e]
def many (f e : Int) : Int := (1099511627776 - f) / e + 1
theorem many_bd {f e : Int} (h : TOk f e) : 1 ≤ many f e ∧ many f e ≤ 1099511627777 := by
  obtain ⟨h1, h2, h3, h4⟩ := h
  have a : 0 ≤ (1099511627776 - f) / e := Int.ediv_nonneg (by omega) (by omega)
  have b : (1099511627776 - f) / e ≤ 1099511627776 - f := Int.ediv_le_self _ (by omega)
  unfold many
  omega
theorem many_ok {S : AH} {f e : Int} (h : TOk f e) : wpC EM (.fn (.func 98) [] []) [cl f e] S fun r S' => r = I (many f e) ∧ Grows S S' := by
  refine wpC_fn (b := Tryz.a98) rfl rfl ?_
  have H : Cx S [] S [] [] := Cx.enter (by simp)
  rw [Tryz.u98]
  have hb := many_bd h
  obtain ⟨h1, h2, h3, h4⟩ := h
  refine wp_box H rfl fun b S1 H => ?_
  try(refine zz ?_;(repeat constructor);intro _)
  refine wp_load1 H (by repeat (first | exact List.Mem.head _ | apply List.Mem.tail)) rfl ?_
  refine wp_sub64 (by omega) (by omega) ?_
  try(refine zz ?_;(repeat constructor);intro _)
  refine wp_load1 H (by repeat (first | exact List.Mem.head _ | apply List.Mem.tail)) rfl ?_
  have e1 : (1099511627776 - f).tdiv e = (1099511627776 - f) / e := Int.tdiv_eq_ediv_of_nonneg (by omega)
  unfold many at hb ⊢
  refine wp_quo (c := (1099511627776 - f) / e) (by omega) (by rw [e1]; exact wrap64 (by omega) (by omega)) ?_
  refine wp_add64 (by omega) (by omega) ?_
  exact wp_ret ⟨rfl, rfl, H.grows⟩
def num (f e now : Int) : Int := if now ≤ f then 0 else (now - f) / e + (if (now - f) % e = 0 then 0 else 1)
theorem num_ceil {f e now : Int} (he : 1 ≤ e) (hn : f < now) : num f e now = (now - f + e - 1) / e := by
  unfold num
  rw [if_neg (by omega)]
  have h1 := Int.emod_add_mul_ediv (now - f) e
  have h2 := Int.emod_nonneg (now - f) (by omega : e ≠ 0)
  have h3 := Int.emod_lt_of_pos (now - f) (by omega : 0 < e)
  generalize (now - f) % e = r at h1 h2 h3 ⊢
  generalize (now - f) / e = q at h1 ⊢
  symm
  split
  · rename_i hr
    have : now - f + e - 1 = (e - 1) + e * q := by rw [hr] at h1; omega
    rw [this, Int.add_mul_ediv_left _ _ (by omega), Int.ediv_eq_zero_of_lt (by omega) (by omega)]
    omega
  · have : now - f + e - 1 = (r - 1) + e * (q + 1) := by rw [Int.mul_add]; omega
    rw [this, Int.add_mul_ediv_left _ _ (by omega), Int.ediv_eq_zero_of_lt (by omega) (by omega)]
    omega
theorem num_bd {f e now : Int} (he : 1 ≤ e) : 0 ≤ num f e now ∧ (f < now → num f e now ≤ now - f) := by
  by_cases h : now ≤ f
  · unfold num; rw [if_pos h]; constructor <;> omega
  · rw [num_ceil he (by omega)]
    refine ⟨Int.ediv_nonneg (by omega) (by omega), fun _ => ?_⟩
    have : (now - f + e - 1) / e < now - f + 1 := Int.ediv_lt_of_lt_mul (by omega) (by
      have : (now - f + 1) * e = (now - f) * e + e := by rw [Int.add_mul]; omega
      have h2 : (now - f) * 1 ≤ (now - f) * e := Int.mul_le_mul_of_nonneg_left he (by omega)
      omega)
    omega
def since (f e now : Int) : Int := if now ≤ f then 0 else if 1099511627776 < now then many f e else min (many f e) (num f e now)
theorem num_most {f e : Int} (h : TOk f e) : num f e (1099511627776 + 1) = many f e := by
  obtain ⟨h1, h2, h3, h4⟩ := h
  rw [num_ceil h3 (by omega)]
  unfold many
  have : 1099511627776 + 1 - f + e - 1 = (1099511627776 - f) + e * 1 := by omega
  rw [this, Int.add_mul_ediv_left _ _ (by omega)]
theorem since_eq {f e now : Int} (h : TOk f e) : since f e now = min (many f e) (num f e (min now (1099511627776 + 1))) := by
  have hm := num_most h
  have hb := many_bd h
  unfold since
  split
  · rename_i hn
    have : num f e (min now (1099511627776 + 1)) = 0 := by unfold num; rw [if_pos (by have := h.f1; omega)]
    rw [this]; omega
  · split
    · rw [show min now (1099511627776 + 1) = 1099511627776 + 1 by omega, hm]; omega
    · rw [show min now (1099511627776 + 1) = now by omega]
theorem since_bd {f e now : Int} (h : TOk f e) : 0 ≤ since f e now ∧ since f e now ≤ many f e := by
  have := many_bd h
  have := (num_bd (f := f) (now := min now (1099511627776 + 1)) h.e0).1
  rw [since_eq h]; omega
end Go.Abs.Tsk
namespace Go.Abs.Tsk
variable [Ek]
open Go.Proofs
set_option maxRecDepth 100000
theorem e_min1 (a b : Int) : minmax1 false (I a) (I b) = some (I (min a b)) := by
  have : minmax1 false (I a) (I b) = some (I (if ltF b a then b else a)) := rfl
  rw [this, ltF_eq]
  congr 2
  by_cases h : b < a
  · simp [h]; omega
  · simp [h]; omega
theorem wp_min {M : Mach} {S : AH} {Q : Post} {k : AV → AC} {a b : Int} (h : wp M (k (I (min a b))) S Q) : wp M (.op (.minmax false [I a, I b]) k) S Q := wp_op (v := I (min a b)) (by
  show pur (minmax1 false (I a) (I b)) S = _
  rw [e_min1]; rfl) h
theorem wp_not {M : Mach} {S : AH} {Q : Post} {k : AV → AC} {b : Bool} (h : wp M (k (B (!b))) S Q) : wp M (.op (.un .not (B b)) k) S Q := wp_op (v := B (!b)) rfl h
theorem cl_beq {f e : Int} : ∀ y ∈ [I f, I e], AV.beq y y = true := by
  intro y hy
  simp only [List.mem_cons, List.not_mem_nil, or_false] at hy
  rcases hy with rfl | rfl <;> exact beq_num

theorem of_ok {S : AH} {x : Tk} : wpC EM (.fn (.func 60) [] []) [.agg x.cs] S fun r S' => r = .tup [cl x.first x.every, B (timed x)] ∧ Grows S S' := by
  refine wpC_fn (b := Tryz.a60) rfl rfl ?_
  have H : Cx S [] S [] [] := Cx.enter (by simp)
  rw [Tryz.u60]
  refine wp_fin ?_
  refine wp_box H rfl fun b S1 H => ?_
  refine wp_alloc H fun o S2 H => ?_
  try(refine zz ?_;(repeat constructor);intro _)
  refine wp_load1 H (by repeat (first | exact List.Mem.head _ | apply List.Mem.tail)) rfl ?_
  try(refine zz ?_;(repeat constructor);intro _)
  refine wp_load1 H (by repeat (first | exact List.Mem.head _ | apply List.Mem.tail)) rfl ?_
  refine wp_op (v := cl x.first x.every) rfl ?_
  try(refine zz ?_;(repeat constructor);intro _)
  refine wp_load1 H (by repeat (first | exact List.Mem.head _ | apply List.Mem.tail)) rfl ?_
  have fin : ∀ S3 t, Cx S [] S3 [.obj o (.row [I 0, I 0])] [.pt b 0 x.cs] → timed x = t → wp EM (.op (.store 2 (.ptr o 0) (cl x.first x.every)) fun v15 => .ret .ret [.ptr o 0, B t]) S3 fun t vs S' => (t = .normal ∨ t = .ret) ∧ wp EM (.op (.load 2 true (nth vs 0)) fun v2 => .ret .ret [v2, (nth vs 1)]) S' fun t vs S' => t = .ret ∧ oneOf vs = .tup [cl x.first x.every, B (timed x)] ∧ Grows S S' := by
    intro S3 t H ht
    refine wp_store H 0 rfl rfl rfl (Nat.le_of_ble_eq_true rfl) fun S4 H => ?_
    refine wp_ret ⟨.inr rfl, ?_⟩
    refine wp_loadoa (n := 2) H 0 rfl (Nat.le_of_ble_eq_true rfl) ?_
    refine wp_ret ⟨rfl, ?_, H.grows⟩
    rw [ht]; rfl
  refine wp_eql (fun h1 => ?_) (fun h1 => ?_)
  · try(refine zz ?_;(repeat constructor);intro _)
    refine wp_loada H (cs := x.cs) (by repeat (first | exact List.Mem.head _ | apply List.Mem.tail)) (Nat.le_of_ble_eq_true rfl) ?_
    try(refine zz ?_;(repeat constructor);intro _)
    refine wp_callV H one_ok fun S3 H => ?_
    refine wp_chk1 (v := I x.first) H (cs := x.cs) (by repeat (first | exact List.Mem.head _ | apply List.Mem.tail)) rfl beq_num ?_
    refine wp_chk1 (v := I x.every) H (cs := x.cs) (by repeat (first | exact List.Mem.head _ | apply List.Mem.tail)) rfl beq_num ?_
    try(refine zz ?_;(repeat constructor);intro _)
    refine wp_eql (fun h2 => ?_) (fun h2 => ?_)
    · try(refine zz ?_;(repeat constructor);intro _)
      exact fin S3 _ H (decide_eq_true ⟨h1, h2⟩)
    · try(refine zz ?_;(repeat constructor);intro _)
      exact fin S3 _ H (decide_eq_false fun h => h2 h.2)
  · try(refine zz ?_;(repeat constructor);intro _)
    refine wp_chk1 (v := I x.first) H (cs := x.cs) (by repeat (first | exact List.Mem.head _ | apply List.Mem.tail)) rfl beq_num ?_
    refine wp_chk1 (v := I x.every) H (cs := x.cs) (by repeat (first | exact List.Mem.head _ | apply List.Mem.tail)) rfl beq_num ?_
    try(refine zz ?_;(repeat constructor);intro _)
    exact fin S2 _ H (decide_eq_false fun h => h1 h.1)
theorem since_ok {S : AH} {f e now : Int} (h : TOk f e) : wpC EM (.fn (.func 61) [] []) [cl f e, I now] S fun r S' => r = I (since f e now) ∧ Grows S S' := by
  refine wpC_fn (b := Tryz.a61) rfl rfl ?_
  have H : Cx S [] S [] [] := Cx.enter (by simp)
  have hb := many_bd h
  have h4 := h
  obtain ⟨f0, f1, e0, e1⟩ := h4
  rw [Tryz.u61]
  refine wp_box H rfl fun b S1 H => ?_
  refine wp_bind ?_
  try(refine zz ?_;(repeat constructor);intro _)
  refine wp_load1 H (by repeat (first | exact List.Mem.head _ | apply List.Mem.tail)) rfl ?_
  unfold since
  refine wp_leq (fun h1 => ?_) (fun h1 => ?_)
  · rw [if_pos h1]
    try(refine zz ?_;(repeat constructor);intro _)
    exact wp_ret ⟨rfl, rfl, H.grows⟩
  rw [if_neg (by omega)]
  try(refine zz ?_;(repeat constructor);intro _)
  refine wp_gtr (fun h2 => ?_) (fun h2 => ?_)
  · rw [if_pos h2]
    try(refine zz ?_;(repeat constructor);intro _)
    refine wp_loada H (cs := [I f, I e]) (by repeat (first | exact List.Mem.head _ | apply List.Mem.tail)) (Nat.le_of_ble_eq_true rfl) ?_
    refine wp_callV H (many_ok h) fun S3 H => ?_
    exact wp_ret ⟨rfl, rfl, H.grows⟩
  rw [if_neg (by omega)]
  try(refine zz ?_;(repeat constructor);intro _)
  refine wp_ret ?_
  show wp EM _ _ _
  refine wp_loada H (cs := [I f, I e]) (by repeat (first | exact List.Mem.head _ | apply List.Mem.tail)) (Nat.le_of_ble_eq_true rfl) ?_
  try(refine zz ?_;(repeat constructor);intro _)
  refine wp_load1 H (cs := [I f, I e]) (by repeat (first | exact List.Mem.head _ | apply List.Mem.tail)) rfl ?_
  refine wp_sub64 (by omega) (by omega) ?_
  try(refine zz ?_;(repeat constructor);intro _)
  refine wp_load1 H (cs := [I f, I e]) (by repeat (first | exact List.Mem.head _ | apply List.Mem.tail)) rfl ?_
  refine wp_add64 (by omega) (by omega) ?_
  refine wp_sub64 (by omega) (by omega) ?_
  try(refine zz ?_;(repeat constructor);intro _)
  refine wp_load1 H (cs := [I f, I e]) (by repeat (first | exact List.Mem.head _ | apply List.Mem.tail)) rfl ?_
  have hn := num_ceil (f := f) (now := now) e0 (by omega)
  have hnb := num_bd (f := f) (now := now) e0
  have ed : (now - f + e - 1).tdiv e = num f e now := by rw [hn]; exact Int.tdiv_eq_ediv_of_nonneg (by omega)
  refine wp_quo (c := num f e now) (by omega) (by rw [ed]; exact wrap64 (by omega) (by omega)) ?_
  refine wp_callV H (many_ok h) fun S3 H => ?_
  refine wp_chk1 (v := I f) H (cs := [I f, I e]) (by repeat (first | exact List.Mem.head _ | apply List.Mem.tail)) rfl beq_num ?_
  refine wp_chk1 (v := I e) H (cs := [I f, I e]) (by repeat (first | exact List.Mem.head _ | apply List.Mem.tail)) rfl beq_num ?_
  refine wp_chk1 (v := I e) H (cs := [I f, I e]) (by repeat (first | exact List.Mem.head _ | apply List.Mem.tail)) rfl beq_num ?_
  refine wp_min ?_
  exact wp_ret ⟨rfl, rfl, H.grows⟩
end Go.Abs.Tsk
namespace Go.Abs.Tsk
variable [Ek]
open Go.Proofs
set_option maxRecDepth 100000
def count (x : Tk) (a b : Int) : Int := if timed x = true ∧ a < b then since x.first x.every b - since x.first x.every a else 0
theorem time_bd {f e n : Int} (h : TOk f e) (h0 : 0 ≤ n) (h1 : n < many f e) : 0 ≤ n * e ∧ n * e ≤ 1099511627776 - f := by
  obtain ⟨f0, f1, e0, e1⟩ := h
  refine ⟨Int.mul_nonneg h0 (by omega), ?_⟩
  unfold many at h1
  have h2 : n * e ≤ (1099511627776 - f) / e * e := Int.mul_le_mul_of_nonneg_right (by omega) (by omega)
  have := Int.ediv_mul_le (1099511627776 - f) (by omega : e ≠ 0)
  omega

theorem count_ok {S : AH} {x : Tk} {a b : Int} : wpC EM (.fn (.func 31) [] []) [.agg x.cs, I a, I b] S fun r S' => r = I (count x a b) ∧ Grows S S' := by
  refine wpC_fn (b := Tryz.a31) rfl rfl ?_
  have H : Cx S [] S [] [] := Cx.enter (by simp)
  rw [Tryz.u31]; unfold count 
  refine wp_box H rfl fun b0 S1 H => ?_
  refine wp_loada H (cs := x.cs) (by repeat (first | exact List.Mem.head _ | apply List.Mem.tail)) (Nat.le_of_ble_eq_true rfl) ?_
  refine wp_callV H of_ok fun S2 H => ?_
  try(refine zz ?_;(repeat constructor);intro _)
  refine wp_alloc H fun o S3 H => ?_
  refine wp_store (v := cl x.first x.every) H 0 rfl rfl rfl (Nat.le_of_ble_eq_true rfl) fun S4 H => ?_
  replace H : Cx S [] S4 [] [.pt o 0 [I x.first, I x.every], .pt b0 0 x.cs] := H.freeze (i := 0) (c := [I x.first, I x.every]) rfl
  show wp EM (.op (.un .not (B (timed x))) _) S4 _
  refine wp_not ?_
  cases ht : timed x with
  | false =>
    try(refine zz ?_;(repeat constructor);intro _)
    rw [if_neg (by simp)]
    exact wp_ret ⟨rfl, rfl, H.grows⟩
  | true =>
    have hT := timed_ok ht
    have sa := since_bd (now := a) hT
    have sb := since_bd (now := b) hT
    have hb := many_bd hT
    try(refine zz ?_;(repeat constructor);intro _)
    refine wp_geq (fun hge => ?_) (fun hlt => ?_)
    · rw [if_neg (by omega)]
      try(refine zz ?_;(repeat constructor);intro _)
      exact wp_ret ⟨rfl, rfl, H.grows⟩
    · rw [if_pos ⟨rfl, hlt⟩]
      try(refine zz ?_;(repeat constructor);intro _)
      refine wp_loada H (cs := [I x.first, I x.every]) (by repeat (first | exact List.Mem.head _ | apply List.Mem.tail)) (Nat.le_of_ble_eq_true rfl) ?_
      refine wp_loada H (cs := [I x.first, I x.every]) (by repeat (first | exact List.Mem.head _ | apply List.Mem.tail)) (Nat.le_of_ble_eq_true rfl) ?_
      refine wp_callV H (since_ok hT) fun S5 H => ?_
      refine wp_chkn (j := 0) (cs := [I x.first, I x.every]) H (by repeat (first | exact List.Mem.head _ | apply List.Mem.tail)) (Nat.le_of_ble_eq_true rfl) rfl cl_beq ?_
      refine wp_callV H (since_ok hT) fun S6 H => ?_
      refine wp_sub64 (by omega) (by omega) ?_
      exact wp_ret ⟨rfl, rfl, H.grows⟩
def tnext (x : Tk) (now : Int) : AV := if timed x = true ∧ since x.first x.every now < many x.first x.every then .tup [I (x.first + since x.first x.every now * x.every), B true] else .tup [I 0, B false]
end Go.Abs.Tsk
namespace Go.Abs.Tsk
variable [Ek]
open Go.Proofs
set_option maxRecDepth 100000
section
variable {M : Mach} {B0 S : AH} {W : List Nat} {own : List Own} {ro : List Fct} {Q : Post}
theorem wp_rngX (H : Cx B0 W S own ro) {m : Nat} {f : AV} {body : List AV → AC} {kk : AC} {outs : List AV} (hf : ∀ i, f ≠ .yd i) (Done : Option Tag → AH → Prop)
    (hc : ∀ l S1, Cx B0 W S1 (.obj l (.loop .ready none m body) :: own) ro → wpC M f [.yd l] S1 fun _ S' => ∃ st p m' b', S'.get l = some (.loop st p m' b') ∧ st ≠ .busy ∧ ∀ S2, S2.next = S'.next → (∀ j, j ≠ l → S2.get j = S'.get j) → Done p S2)
    (h : ∀ S2, Done none S2 → wp M kk S2 Q) (h' : ∀ t S2, Done (some t) S2 → Q t outs S2) : wp M (.rng m f body kk outs) S Q := by
  refine wp_rng hf (wpC_mono (hc S.next _ (H.addOwn (Grows.new S _) (get_new_same _ _) ?_)) fun v S' ⟨st, p, m', b', h1, h2, h3⟩ => ⟨st, p, m', b', h1, h2, ?_⟩)
  · intro j hj
    simp only [Own.ids, List.mem_singleton] at hj
    subst hj
    exact ⟨Nat.le_refl _, by simp⟩
  · have key := h3 (S'.set S.next (.loop .exhausted p m' b')) rfl fun j hj => by rw [AH.get_set, if_neg hj]
    cases p with
    | none => exact h _ key
    | some t => exact h' t _ key
theorem wpC_ydX (H : Cx B0 W S own ro) (n : Nat) {l m : Nat} {args : List AV} {body : List AV → AC} {R : AV → AH → Prop} (hm : own[n]? = some (.obj l (.loop .ready none m body))) (hl : args.length = m)
    (h : wp M (body (.yd l :: args)) S fun t _ S' => ∃ own' ro', Cx B0 W S' own' ro' ∧ own'[n]? = some (.obj l (.loop .busy none m body)) ∧
      ((t = .normal ∧ ∀ S2, Cx B0 W S2 (own'.set n (.obj l (.loop .ready none m body))) ro' → R (B true) S2) ∨ (t ≠ .normal ∧ ∀ S2, Cx B0 W S2 (own'.set n (.obj l (.loop .done (some t) m body))) ro' → R (B false) S2))) :
    wpC M (.yd l) args S R := by
  refine wpC_yd (H.oh _ (List.mem_of_getElem? hm)) hl (wp_mono h fun t vs S' q => ?_)
  obtain ⟨own', ro', H', hm', hR⟩ := q
  refine ⟨none, m, body, H'.oh _ (List.mem_of_getElem? hm'), ?_⟩
  rcases hR with ⟨rfl, hR⟩ | ⟨ht, hR⟩
  · exact hR _ (H'.setOb hm' _)
  · cases t with
    | normal => exact absurd rfl ht
    | _ => exact hR _ (H'.setOb hm' _)
end
theorem times41 {S : AH} {f e n : Int} {B0 : AH} {W : List Nat} {own : List Own} {ro : List Fct} {Q : Post} {k : AV → AC} (H : Cx B0 W S own ro)
    (h : ∀ pn pc S1, Cx B0 W S1 own (.pt pn 0 [I n] :: .pt pc 0 [I f, I e] :: ro) → wp EM (k (.fn (.func 99) [] [.ptr pn 0, .ptr pc 0])) S1 Q) : wp EM (.call (.fn (.func 62) [] []) [cl f e, I n] k) S Q := by
  refine wp_call (wpC_fn (b := Tryz.a62) rfl rfl ?_)
  rw [Tryz.u62]
  refine wp_box H rfl fun pd S1 H => ?_
  refine wp_box H rfl fun ph S2 H => ?_
  exact wp_ret ⟨rfl, h ph pd S2 H⟩
theorem iter_ok {S : AH} {pn pc l : Nat} {f e n : Int} (hT : TOk f e) (h0 : 0 ≤ n) (h1 : n ≤ many f e) (J : Int → AH → Prop) (JF : AH → Prop)
    (hJ : ∀ i S, J i S → ∃ B W own, Cx B W S own [.pt pn 0 [I n], .pt pc 0 [I f, I e]]) (hg : ∀ i S S', J i S → Grows S S' → J i S')
    (hy : ∀ i S, n ≤ i → i < many f e → J i S → wpC EM (.yd l) [I (f + i * e)] S fun v S' => (v = B true ∧ J (i + 1) S') ∨ (v = B false ∧ JF S')) (hn : J n S) :
    wpC EM (.fn (.func 99) [] [.ptr pn 0, .ptr pc 0]) [.yd l] S fun _ S' => J (many f e) S' ∨ JF S' := by
  refine wpC_fn (b := Tryz.a99) rfl rfl ?_
  rw [Tryz.u99]
  have hb := many_bd hT
  have ent : ∀ i S, J i S → Cx S [] S [] [.pt pn 0 [I n], .pt pc 0 [I f, I e]] := by
    intro i S hJi
    obtain ⟨B, W, own, H⟩ := hJ i S hJi
    exact Cx.enter fun φ hφ => ⟨H.rh φ hφ, fun id hid => (H.ri φ hφ id hid).1⟩
  refine wp_load0 (ent n S hn) (cs := [I n]) (by repeat (first | exact List.Mem.head _ | apply List.Mem.tail)) rfl ?_
  refine wp_bind (wp_loop (wpL_for (many f e - n).toNat (fun i vs S1 => vs = [I (n + (i : Int))] ∧ J (n + (i : Int)) S1) ?_ ?_ ⟨by simp, by simpa using hn⟩))
  · rintro i vs S1 hlt ⟨rfl, hJi⟩
    have H := ent _ S1 hJi
    refine wp_loada H (cs := [I f, I e]) (by repeat (first | exact List.Mem.head _ | apply List.Mem.tail)) (Nat.le_of_ble_eq_true rfl) ?_
    refine wp_callV H (many_ok hT) fun S2 H => ?_
    refine wp_lss_t (by omega) ?_
    try(refine zz ?_;(repeat constructor);intro _)
    refine wp_bind ?_
    have hbd := time_bd hT (n := n + (i : Int)) (by omega) (by omega)
    have hf0 := hT.f0
    have hf1 := hT.f1
    try(refine zz ?_;(repeat constructor);intro _)
    refine wp_load1 H (cs := [I f, I e]) (by repeat (first | exact List.Mem.head _ | apply List.Mem.tail)) rfl ?_
    try(refine zz ?_;(repeat constructor);intro _)
    refine wp_load1 H (cs := [I f, I e]) (by repeat (first | exact List.Mem.head _ | apply List.Mem.tail)) rfl ?_
    refine wp_mul (c := (n + (i : Int)) * e) (wrap64 (by omega) (by omega)) ?_
    refine wp_add64 (by omega) (by omega) ?_
    refine wp_call (wpC_mono (hy (n + (i : Int)) S2 (by omega) (by omega) (hg _ _ _ hJi H.grows)) fun r S3 hr => ?_)
    rcases hr with ⟨rfl, hJ'⟩ | ⟨rfl, hF⟩
    · refine wp_not ?_
      try(refine zz ?_;(repeat constructor);intro _)
      refine wp_ret ?_
      show wp EM _ _ _
      refine wp_add64 (by omega) (by omega) (wp_ret (.inl ⟨rfl, ?_⟩))
      rw [Int.natCast_add, show ((1 : Nat) : Int) = 1 from rfl, ← Int.add_assoc]
      exact ⟨rfl, hJ'⟩
    · refine wp_not ?_
      try(refine zz ?_;(repeat constructor);intro _)
      exact wp_ret (.inr ⟨by simp, rfl, .inr hF⟩)
  · rintro vs S1 ⟨rfl, hJi⟩
    have en : n + ((many f e - n).toNat : Int) = many f e := by omega
    rw [en] at hJi ⊢
    have H := ent _ S1 hJi
    refine wp_loada H (cs := [I f, I e]) (by repeat (first | exact List.Mem.head _ | apply List.Mem.tail)) (Nat.le_of_ble_eq_true rfl) ?_
    refine wp_callV H (many_ok hT) fun S2 H => ?_
    refine wp_lss_f (by omega) ?_
    try(refine zz ?_;(repeat constructor);intro _)
    exact wp_ret ⟨by simp, wp_ret ⟨rfl, .inl (hg _ _ _ hJi H.grows)⟩⟩

theorem next_ok {S : AH} {x : Tk} {now : Int} : wpC EM (.fn (.func 33) [] []) [.agg x.cs, I now] S fun r S' => r = tnext x now ∧ Grows S S' := by
  refine wpC_fn (b := Tryz.a33) rfl rfl ?_
  have H : Cx S [] S [] [] := Cx.enter (by simp)
  unfold Tryz.a33 tnext 
  refine wp_fin ?_
  refine wp_box H rfl fun b0 S1 H => ?_
  refine wp_alloc H fun r1 S2 H => ?_
  refine wp_alloc H fun r2 S3 H => ?_
  refine wp_loada H (cs := x.cs) (by repeat (first | exact List.Mem.head _ | apply List.Mem.tail)) (Nat.le_of_ble_eq_true rfl) ?_
  refine wp_callV H of_ok fun S4 H => ?_
  try(refine zz ?_;(repeat constructor);intro _)
  refine wp_alloc H fun o S5 H => ?_
  refine wp_store (v := cl x.first x.every) H 0 rfl rfl rfl (Nat.le_of_ble_eq_true rfl) fun S6 H => ?_
  replace H : Cx S [] S6 [.obj r2 (.row [B false]), .obj r1 (.row [I 0])] [.pt o 0 [I x.first, I x.every], .pt b0 0 x.cs] := H.freeze (i := 0) (c := [I x.first, I x.every]) rfl
  refine wp_bind ?_
  have none_ : ∀ S7, Cx S [] S7 [.obj r2 (.row [B false]), .obj r1 (.row [I 0])] [] → wp EM (.op (.store 1 (.ptr r1 0) (I 0)) fun v11 => .op (.store 1 (.ptr r2 0) (B false)) fun v12 => .ret .ret [.ptr r1 0, .ptr r2 0]) S7 fun t vs S' => (t = .normal ∨ t = .ret) ∧ wp EM (.op (.load 1 false (nth vs 0)) fun v2 => .op (.load 1 false (nth vs 1)) fun v3 => .ret .ret [v2, v3]) S' fun t vs S' => t = .ret ∧ oneOf vs = .tup [I 0, B false] ∧ Grows S S' := by
    intro S7 H
    refine wp_store H 1 rfl rfl rfl (Nat.le_of_ble_eq_true rfl) fun S8 H => ?_
    refine wp_store H 0 rfl rfl rfl (Nat.le_of_ble_eq_true rfl) fun S9 H => ?_
    refine wp_ret ⟨.inr rfl, ?_⟩
    refine wp_loado (v := I 0) H 1 rfl rfl ?_
    refine wp_loado (v := B false) H 0 rfl rfl ?_
    exact wp_ret ⟨rfl, rfl, H.grows⟩
  show wp EM (.ite (B (timed x)) _ _) S6 _
  cases ht : timed x with
  | false =>
    try(refine zz ?_;(repeat constructor);intro _)
    rw [if_neg (by simp)]
    refine wp_ret ?_
    exact none_ S6 (H.dropRo (by simp))
  | true =>
    have hT := timed_ok ht
    have hb := many_bd hT
    have hs := since_bd (now := now) hT
    try(refine zz ?_;(repeat constructor);intro _)
    refine wp_loada H (cs := [I x.first, I x.every]) (by repeat (first | exact List.Mem.head _ | apply List.Mem.tail)) (Nat.le_of_ble_eq_true rfl) ?_
    refine wp_loada H (cs := [I x.first, I x.every]) (by repeat (first | exact List.Mem.head _ | apply List.Mem.tail)) (Nat.le_of_ble_eq_true rfl) ?_
    refine wp_callV H (since_ok hT) fun S7 H => ?_
    refine wp_chkn (j := 0) (cs := [I x.first, I x.every]) H (by repeat (first | exact List.Mem.head _ | apply List.Mem.tail)) (Nat.le_of_ble_eq_true rfl) rfl cl_beq ?_
    refine times41 H fun pn pc S8 H => ?_
    refine wp_bind ?_
    generalize hs' : since x.first x.every now = s at hs H ⊢
    refine wp_rngX (Done := fun p S' => match p with
      | none => many x.first x.every ≤ s ∧ Cx S [] S' [.obj r2 (.row [B false]), .obj r1 (.row [I 0])] []
      | some t => t = .ret ∧ s < many x.first x.every ∧ Cx S [] S' [.obj r2 (.row [B true]), .obj r1 (.row [I (x.first + s * x.every)])] []) H (by intro i e; cases e) ?_ ?_ ?_
    · intro l S9 H
      refine wpC_mono (iter_ok hT hs.1 hs.2 (fun i S' => i = s ∧ Cx S [] S' [.obj l (.loop .ready none 1 fun v14 => .start (nth v14 0) (.bind (Tryz.a33x0 (.ptr r1 0) (.ptr r2 0) v14) (some 3) (fun v15 => .ret .normal []) (fun v15 => []))), .obj r2 (.row [B false]), .obj r1 (.row [I 0])] [.pt pn 0 [I s], .pt pc 0 [I x.first, I x.every]])
        (fun S' => s < many x.first x.every ∧ Cx S [] S' [.obj l (.loop .done (some .ret) 1 fun v14 => .start (nth v14 0) (.bind (Tryz.a33x0 (.ptr r1 0) (.ptr r2 0) v14) (some 3) (fun v15 => .ret .normal []) (fun v15 => []))), .obj r2 (.row [B true]), .obj r1 (.row [I (x.first + s * x.every)])] []) ?_ ?_ ?_ ⟨rfl, H.dropRo (by
          intro φ hφ
          rcases List.mem_cons.1 hφ with rfl | hφ
          · exact List.Mem.head _
          · exact List.mem_of_mem_take (i := 2) (List.Mem.tail _ hφ))⟩) fun r S' hr => ?_
      · rintro i S' ⟨rfl, H⟩
        exact ⟨_, _, _, H⟩
      · rintro i S' S'' ⟨rfl, H⟩ hg
        exact ⟨rfl, H.grow hg⟩
      · rintro i S' h1 h2 ⟨rfl, H⟩
        refine wpC_ydX H 0 rfl rfl ?_
        refine wp_startO H 0 rfl fun S10 H => ?_
        refine wp_bind ?_
        unfold Tryz.a33x0 
        refine wp_store (v := I (x.first + i * x.every)) H 2 rfl rfl rfl (Nat.le_of_ble_eq_true rfl) fun S11 H => ?_
        refine wp_store H 1 rfl rfl rfl (Nat.le_of_ble_eq_true rfl) fun S12 H => ?_
        refine wp_ret ?_
        exact ⟨_, _, H, rfl, .inr ⟨by simp, fun S13 H => .inr ⟨rfl, h2, H.dropRo (by simp)⟩⟩⟩
      · rcases hr with ⟨hm, H⟩ | ⟨hm, H⟩
        · exact ⟨_, _, _, _, H.oh _ (List.Mem.head _), by simp, fun S2 e1 e2 => ⟨by omega, (H.other (n := 0) rfl e1 e2).dropRo (by simp)⟩⟩
        · exact ⟨_, _, _, _, H.oh _ (List.Mem.head _), by simp, fun S2 e1 e2 => ⟨rfl, hm, (H.other (n := 0) rfl e1 e2).dropRo (by simp)⟩⟩
    · rintro S9 ⟨hm, H⟩
      refine wp_ret ?_
      show wp EM _ _ _
      refine wp_ret ?_
      rw [if_neg (by omega)]
      exact none_ S9 H
    · rintro t S9 ⟨rfl, hm, H⟩
      rw [if_pos ⟨rfl, hm⟩]
      refine ⟨.inr rfl, ?_⟩
      refine wp_loado (v := I (x.first + s * x.every)) H 1 rfl rfl ?_
      refine wp_loado (v := B true) H 0 rfl rfl ?_
      exact wp_ret ⟨rfl, rfl, H.grows⟩
end Go.Abs.Tsk
namespace Go.Abs.Tsk
variable [Ek]
open Go.Proofs
set_option maxRecDepth 100000
def tl (f e s : Int) (n : Nat) : List Int := (List.range n).map fun (k : Nat) => f + (s + (k : Int)) * e
theorem ints_snoc (l : List Int) (n : Int) : ints (l ++ [n]) = ints l ++ [[I n]] := by simp [ints]
theorem since_mono {f e a b : Int} (h : TOk f e) (hab : a ≤ b) : since f e a ≤ since f e b := by
  rw [since_eq h, since_eq h]
  have hmin : min a (1099511627776 + 1) ≤ min b (1099511627776 + 1) := by omega
  generalize min a (1099511627776 + 1) = a at hmin
  generalize min b (1099511627776 + 1) = b at hmin
  have : num f e a ≤ num f e b := by
    by_cases ha : a ≤ f
    · have := (num_bd (f := f) (now := b) h.e0).1
      unfold num at *; rw [if_pos ha]; exact this
    · rw [num_ceil h.e0 (by omega), num_ceil h.e0 (by omega)]
      exact Int.ediv_le_ediv (by have := h.e0; omega) (by omega)
  omega
theorem time_lt {f e b i : Int} (h : TOk f e) (h0 : 0 ≤ i) (h1 : i < many f e) : f + i * e < b ↔ i < since f e b := by
  have hbd := time_bd h h0 h1
  obtain ⟨f0, f1, e0, e1⟩ := h
  unfold since
  split
  · constructor <;> intro <;> omega
  · split
    · constructor <;> intro <;> omega
    · rw [num_ceil e0 (by omega)]
      have key : i < (b - f + e - 1) / e ↔ i * e < b - f := by
        have : i + 1 ≤ (b - f + e - 1) / e ↔ (i + 1) * e ≤ b - f + e - 1 := Int.le_ediv_iff_mul_le (by omega : 0 < e)
        have e2 : (i + 1) * e = i * e + e := by rw [Int.add_mul]; omega
        rw [e2] at this
        constructor
        · intro hh; have := this.1 (by omega); omega
        · intro hh; have := this.2 (by omega); omega
      constructor
      · intro hh; have := key.2 (by omega); omega
      · intro hh; have := key.1 (by omega); omega

end Go.Abs.Tsk
namespace Go.Abs.Tsk
variable [Ek]
open Go.Proofs
set_option maxRecDepth 100000
/-! tables -/
def allN (l : List Tk) (a b : Int) : Nat → Int
  | 0 => 0
  | i + 1 => allN l a b i + (match l[i]? with | some x => count x a b | none => 0)
theorem count_bd (x : Tk) (a b : Int) : 0 ≤ count x a b ∧ count x a b ≤ 1099511627777 := by
  unfold count
  split
  · rename_i h
    have hT := timed_ok h.1
    have := since_mono hT (show a ≤ b by omega)
    have := since_bd (now := a) hT
    have := since_bd (now := b) hT
    have := many_bd hT
    omega
  · omega
theorem allN_bd (l : List Tk) (a b : Int) : ∀ i : Nat, 0 ≤ allN l a b i ∧ allN l a b i ≤ 1099511627777 * i
  | 0 => ⟨Int.le_refl _, Int.le_refl _⟩
  | i + 1 => by
    have := allN_bd l a b i
    unfold allN
    split
    · rename_i x _
      have := count_bd x a b
      omega
    · omega
theorem allN_succ {l : List Tk} {a b : Int} {i : Nat} (hi : i < l.length) : allN l a b (i + 1) = allN l a b i + count l[i] a b := by
  conv => lhs; unfold allN
  rw [List.getElem?_eq_getElem hi]
def all (l : List Tk) (a b : Int) : Int := if tchk l = 0 then allN l a b l.length else 0
theorem tchk_len {l : List Tk} (h : tchk l = 0) : l.length ≤ 32 := by
  unfold tchk at h
  split at h
  · cases h
  · omega
theorem all_ok {S : AH} {v : AV} {l : List Tk} {a b : Int} (hv : RoSl S v 4 (tks l)) : wpC EM (.fn (.func 10) [] []) [v, I a, I b] S fun r S' => r = I (all l a b) ∧ Grows S S' := by
  refine wpC_fn (b := Tryz.a10) rfl rfl ?_
  have H := Cx.ro1 hv
  rw [Tryz.u10]; unfold all 
  refine wp_callV H (check_ok (H.roSl (by repeat (first | exact List.Mem.head _ | apply List.Mem.tail)))) fun S1 H => ?_
  refine wp_neq (fun hne => ?_) (fun he => ?_)
  · rw [if_neg hne]
    try(refine zz ?_;(repeat constructor);intro _)
    exact wp_ret ⟨rfl, rfl, H.grows⟩
  rw [if_pos he]
  have hlen := tchk_len he
  try(refine zz ?_;(repeat constructor);intro _)
  refine wp_len H (by repeat (first | exact List.Mem.head _ | apply List.Mem.tail)) ?_
  rw [tks_len]
  refine wp_bind (wp_loop (wpL_for l.length (fun i vs S1 => vs = [I (i : Int), I (allN l a b i)] ∧ Cx S [] S1 [] [.sl v 4 (tks l)]) ?_ ?_ ⟨rfl, H⟩))
  · rintro i vs S1 hlt ⟨rfl, H⟩
    refine wp_lss_t (by omega) ?_
    try(refine zz ?_;(repeat constructor);intro _)
    refine wp_bind ?_
    refine wp_saddr (i := i) H (by repeat (first | exact List.Mem.head _ | apply List.Mem.tail)) (tks_get hlt) fun p off H => ?_
    refine wp_loada H (cs := l[i].cs) (by repeat (first | exact List.Mem.head _ | apply List.Mem.tail)) (Nat.le_of_ble_eq_true rfl) ?_
    refine wp_alloc H fun b0 S3 H => ?_
    refine wp_store H 0 rfl rfl rfl (Nat.le_of_ble_eq_true rfl) fun S4 H => ?_
    replace H : Cx S [] S4 [] [.pt b0 0 l[i].cs, .pt p off l[i].cs, .sl v 4 (tks l)] := H.freeze (i := 0) (c := l[i].cs) rfl
    refine wp_loada H (cs := l[i].cs) (by repeat (first | exact List.Mem.head _ | apply List.Mem.tail)) (Nat.le_of_ble_eq_true rfl) ?_
    refine wp_callV H count_ok fun S5 H => ?_
    have h1 := allN_bd l a b i
    have h2 := count_bd l[i] a b
    refine wp_add64 (by omega) (by omega) ?_
    refine wp_ret ?_
    show wp EM _ _ _
    refine wp_add64 (by omega) (by omega) (wp_ret (.inl ⟨rfl, ?_, H.tl.tl⟩))
    rw [allN_succ hlt]; rfl
  · rintro vs S1 ⟨rfl, H⟩
    refine wp_lss_f (by omega) ?_
    try(refine zz ?_;(repeat constructor);intro _)
    exact wp_ret ⟨by simp, wp_ret ⟨rfl, rfl, H.grows⟩⟩
def isNow (x : Tk) (now : Int) : Bool := decide (timed x = true ∧ since x.first x.every now < many x.first x.every ∧ x.first + since x.first x.every now * x.every = now)
def dueN (l : List Tk) (now : Int) : Nat → List Int
  | 0 => []
  | i + 1 => match l[i]? with
    | some x => if isNow x now = true then dueN l now i ++ [(i : Int)] else dueN l now i
    | none => dueN l now i
theorem dueN_succ {l : List Tk} {now : Int} {i : Nat} (hi : i < l.length) : dueN l now (i + 1) = if isNow l[i] now = true then dueN l now i ++ [(i : Int)] else dueN l now i := by
  conv => lhs; unfold dueN
  rw [List.getElem?_eq_getElem hi]
theorem dueN_len (l : List Tk) (now : Int) : ∀ i : Nat, (dueN l now i).length ≤ i
  | 0 => Nat.le_refl _
  | i + 1 => by
    have := dueN_len l now i
    unfold dueN
    split
    · split
      · simp; omega
      · omega
    · omega
def due (l : List Tk) (now : Int) : List Int := if tchk l = 0 then dueN l now l.length else []
theorem due_len (l : List Tk) (now : Int) : (due l now).length ≤ 32 := by
  unfold due
  split
  · rename_i h
    have := tchk_len h
    have := dueN_len l now l.length
    omega
  · simp
theorem due_ok {S : AH} {v : AV} {l : List Tk} {now : Int} (hv : RoSl S v 4 (tks l)) : wpC EM (.fn (.func 13) [] []) [v, I now] S fun r S' => Cx S [] S' [.sl r 1 (ints (due l now))] [] := by
  refine wpC_fn (b := Tryz.a13) rfl rfl ?_
  have H := Cx.ro1 hv
  rw [Tryz.u13]; unfold due 
  refine wp_callV H (check_ok (H.roSl (by repeat (first | exact List.Mem.head _ | apply List.Mem.tail)))) fun S1 H => ?_
  have H0 : Cx S [] S1 [.sl Ns 1 (ints [])] [.sl v 4 (tks l)] := H.addOwn (Grows.refl _) (.inl ⟨rfl, rfl⟩) (by simp [Own.ids, vids])
  refine wp_neq (fun hne => ?_) (fun he => ?_)
  · rw [if_neg hne]
    try(refine zz ?_;(repeat constructor);intro _)
    exact wp_ret ⟨rfl, H0.dropRo (by simp)⟩
  rw [if_pos he]
  have hlen := tchk_len he
  try(refine zz ?_;(repeat constructor);intro _)
  refine wp_len H (by repeat (first | exact List.Mem.head _ | apply List.Mem.tail)) ?_
  rw [tks_len]
  refine wp_bind (wp_loop (wpL_for l.length (fun i vs S1 => ∃ u : AV, vs = [I (i : Int), u] ∧ Cx S [] S1 [.sl u 1 (ints (dueN l now i))] [.sl v 4 (tks l)]) ?_ ?_ ⟨Ns, rfl, H0⟩))
  · rintro i vs S1 hlt ⟨u, rfl, H⟩
    have hdl := dueN_len l now i
    refine wp_lss_t (by omega) ?_
    try(refine zz ?_;(repeat constructor);intro _)
    refine wp_bind ?_
    refine wp_saddr (i := i) H (by repeat (first | exact List.Mem.head _ | apply List.Mem.tail)) (tks_get hlt) fun p off H => ?_
    refine wp_loada H (cs := l[i].cs) (by repeat (first | exact List.Mem.head _ | apply List.Mem.tail)) (Nat.le_of_ble_eq_true rfl) ?_
    refine wp_alloc H fun b0 S3 H => ?_
    refine wp_store H 0 rfl rfl rfl (Nat.le_of_ble_eq_true rfl) fun S4 H => ?_
    replace H : Cx S [] S4 [.sl u 1 (ints (dueN l now i))] [.pt b0 0 l[i].cs, .pt p off l[i].cs, .sl v 4 (tks l)] := H.freeze (i := 0) (c := l[i].cs) rfl
    refine wp_loada H (cs := l[i].cs) (by repeat (first | exact List.Mem.head _ | apply List.Mem.tail)) (Nat.le_of_ble_eq_true rfl) ?_
    refine wp_callV H next_ok fun S5 H => ?_
    replace H := H.tl.tl
    unfold tnext
    by_cases hs : timed l[i] = true ∧ since l[i].first l[i].every now < many l[i].first l[i].every
    · rw [if_pos hs]
      try(refine zz ?_;(repeat constructor);intro _)
      refine wp_eql (fun heq => ?_) (fun hne => ?_)
      · have hN : isNow l[i] now = true := decide_eq_true ⟨hs.1, hs.2, heq⟩
        try(refine zz ?_;(repeat constructor);intro _)
        refine wp_bind ?_
        try(refine zz ?_;(repeat constructor);intro _)
        refine wp_push H 0 rfl rfl rfl rfl (by rw [ints_len]; unfold maxBytes; omega) (by rw [ints_len]; unfold maxLenN; omega) fun u1 S6 H => ?_
        refine wp_ret (wp_ret ?_)
        show wp EM _ _ _
        refine wp_add64 (by omega) (by omega) (wp_ret (.inl ⟨rfl, u1, rfl, ?_⟩))
        rw [dueN_succ hlt, if_pos hN, ints_snoc]
        exact H
      · have hN : isNow l[i] now = false := decide_eq_false fun h => hne h.2.2
        try(refine zz ?_;(repeat constructor);intro _)
        refine wp_bind ?_
        try(refine zz ?_;(repeat constructor);intro _)
        refine wp_ret (wp_ret ?_)
        show wp EM _ _ _
        refine wp_add64 (by omega) (by omega) (wp_ret (.inl ⟨rfl, u, rfl, ?_⟩))
        rw [dueN_succ hlt, if_neg (by simp [hN])]
        exact H
    · have hN : isNow l[i] now = false := decide_eq_false fun h => hs ⟨h.1, h.2.1⟩
      rw [if_neg hs]
      try(refine zz ?_;(repeat constructor);intro _)
      refine wp_bind ?_
      try(refine zz ?_;(repeat constructor);intro _)
      refine wp_ret (wp_ret ?_)
      show wp EM _ _ _
      refine wp_add64 (by omega) (by omega) (wp_ret (.inl ⟨rfl, u, rfl, ?_⟩))
      rw [dueN_succ hlt, if_neg (by simp [hN])]
      exact H
  · rintro vs S1 ⟨u, rfl, H⟩
    refine wp_lss_f (by omega) ?_
    try(refine zz ?_;(repeat constructor);intro _)
    exact wp_ret ⟨by simp, wp_ret ⟨rfl, H.dropRo (by simp)⟩⟩
/-! homes -/
end Go.Abs.Tsk
