/- functions of this cut: what they compute, in the abstract machine. Conditions: stated in each theorem -/
import Derived.Test.YtbpgfafpkagmmaaGreatE0
set_option linter.unusedVariables false
set_option linter.unusedSimpArgs false
namespace Go.Abs
open Go.Proofs
set_option maxRecDepth 100000
set_option linter.unusedVariables false
/-! ### ranges that are turned within themselves -/
instance : DecidableEq Lv := fun a b => decidable_of_iff (a.job = b.job ∧ a.st = b.st ∧ a.core = b.core ∧ a.key = b.key) ⟨fun h => by cases a; cases b; simp_all, fun h => by subst h; exact ⟨rfl, rfl, rfl, rfl⟩⟩
def lz : Lv := ⟨0, 0, 0, 0⟩
def gt (L : List Lv) (i : Nat) : Lv := L[i]?.getD lz
theorem gt_some {L : List Lv} {i : Nat} (h : i < L.length) : L[i]? = some (gt L i) := by unfold gt; rw [List.getElem?_eq_getElem h]; rfl
theorem gt_eq {L : List Lv} {i : Nat} (h : i < L.length) : gt L i = L[i] := by unfold gt; rw [List.getElem?_eq_getElem h]; rfl
theorem gt_of {L : List Lv} {i : Nat} {x : Lv} (h : L[i]? = some x) : gt L i = x := by unfold gt; rw [h]; rfl
def swp (L : List Lv) (i j : Nat) : List Lv := (L.set i (gt L j)).set j (gt L i)
theorem swp_len {L : List Lv} {i j : Nat} : (swp L i j).length = L.length := by simp [swp]
theorem gt_swp {L : List Lv} {i j k : Nat} (hi : i < L.length) (hj : j < L.length) : gt (swp L i j) k = if k = j then gt L i else if k = i then gt L j else gt L k := by
  unfold swp
  by_cases h1 : k = j
  · subst h1
    rw [if_pos rfl]
    exact gt_of (by rw [List.getElem?_set_self (by simpa using hj)])
  rw [if_neg h1]
  unfold gt
  rw [List.getElem?_set_ne (by omega)]
  by_cases h2 : k = i
  · subst h2
    rw [if_pos rfl, List.getElem?_set_self hi]; rfl
  · rw [if_neg h2, List.getElem?_set_ne (by omega)]
theorem gt_swp1 {L : List Lv} {i j : Nat} (hi : i < L.length) (hj : j < L.length) : gt (swp L i j) i = gt L j := by
  rw [gt_swp hi hj]
  split
  · next h => subst h; rfl
  · rw [if_pos rfl]
theorem gt_swp2 {L : List Lv} {i j : Nat} (hi : i < L.length) (hj : j < L.length) : gt (swp L i j) j = gt L i := by rw [gt_swp hi hj, if_pos rfl]
theorem gt_swp0 {L : List Lv} {i j k : Nat} (hi : i < L.length) (hj : j < L.length) (h1 : k ≠ i) (h2 : k ≠ j) : gt (swp L i j) k = gt L k := by rw [gt_swp hi hj, if_neg h2, if_neg h1]
theorem swp_perm {L : List Lv} {i j : Nat} (hi : i < L.length) (hj : j < L.length) : (swp L i j).Perm L := by
  refine List.perm_iff_count.2 fun x => ?_
  unfold swp
  have hji : j < (L.set i (gt L j)).length := by simpa using hj
  have e : (L.set i (gt L j))[j] = gt L j := by
    by_cases h : i = j
    · subst h; simp
    · rw [List.getElem_set_ne h]; exact (gt_eq hj).symm
  rw [List.count_set hji, List.count_set hi, e, ← gt_eq hi]
  have c1 : 0 < L.count (gt L i) := List.count_pos_iff.2 (by rw [gt_eq hi]; exact List.getElem_mem hi)
  simp only [beq_iff_eq]
  by_cases h1 : gt L i = x
  · by_cases h2 : gt L j = x
    · simp only [h1, h2, if_true]; rw [h1] at c1; omega
    · simp only [h1, h2, if_true, if_false]; rw [h1] at c1; omega
  · by_cases h2 : gt L j = x
    · simp only [h1, h2, if_true, if_false]; omega
    · simp only [h1, h2, if_false]; omega
structure Rg (a b : Nat) (L L' : List Lv) : Prop where
  len : L'.length = L.length
  perm : L'.Perm L
  out : ∀ i, i < a ∨ b ≤ i → gt L' i = gt L i
  inn : ∀ i, a ≤ i → i < b → ∃ j, a ≤ j ∧ j < b ∧ gt L' i = gt L j
theorem Rg.refl (a b : Nat) (L : List Lv) : Rg a b L L := ⟨rfl, List.Perm.refl _, fun _ _ => rfl, fun i h1 h2 => ⟨i, h1, h2, rfl⟩⟩
theorem Rg.trans {a b : Nat} {L M N : List Lv} (h : Rg a b L M) (k : Rg a b M N) : Rg a b L N :=
  ⟨k.len.trans h.len, k.perm.trans h.perm, fun i hi => (k.out i hi).trans (h.out i hi), fun i h1 h2 => by
    obtain ⟨j, j1, j2, e⟩ := k.inn i h1 h2
    obtain ⟨l, l1, l2, e2⟩ := h.inn j j1 j2
    exact ⟨l, l1, l2, e.trans e2⟩⟩
theorem Rg.mono {a b a' b' : Nat} {L M : List Lv} (h : Rg a b L M) (h1 : a' ≤ a) (h2 : b ≤ b') : Rg a' b' L M :=
  ⟨h.len, h.perm, fun i hi => h.out i (by omega), fun i i1 i2 => by
    by_cases hi : a ≤ i ∧ i < b
    · obtain ⟨j, j1, j2, e⟩ := h.inn i hi.1 hi.2
      exact ⟨j, by omega, by omega, e⟩
    · exact ⟨i, i1, i2, h.out i (by omega)⟩⟩
theorem Rg.swp {a b i j : Nat} {L M : List Lv} (h : Rg a b L M) (hb : b ≤ L.length) (i1 : a ≤ i) (i2 : i < b) (j1 : a ≤ j) (j2 : j < b) : Rg a b L (swp M i j) := by
  have hl := h.len
  refine h.trans ⟨swp_len, swp_perm (by omega) (by omega), fun k hk => gt_swp0 (by omega) (by omega) (by omega) (by omega), fun k k1 k2 => ?_⟩
  rw [gt_swp (by omega) (by omega)]
  by_cases h1 : k = j
  · exact ⟨i, i1, i2, by rw [if_pos h1]⟩
  by_cases h2 : k = i
  · exact ⟨j, j1, j2, by rw [if_neg h1, if_pos h2]⟩
  · exact ⟨k, k1, k2, by rw [if_neg h1, if_neg h2]⟩
def Sg (a b : Nat) (L : List Lv) : Prop := ∀ i j, a ≤ i → i < j → j < b → ¬ (gt L j).lt (gt L i)
theorem Srt.of_sg {L : List Lv} (h : Sg 0 L.length L) : Srt L := by
  refine List.pairwise_iff_getElem.2 fun i j hi hj hij => ?_
  have := h i j (by omega) hij hj
  rwa [gt_eq hi, gt_eq hj] at this
def Dst (L : List Lv) : Prop := L.Pairwise fun x y => x.lt y ∨ y.lt x
theorem Dst.perm {L M : List Lv} (h : Dst L) (p : M.Perm L) : Dst M := (List.Perm.pairwise_iff (fun h => h.symm) p).2 h
theorem Dst.gt {L : List Lv} (h : Dst L) {i j : Nat} (hi : i < L.length) (hj : j < L.length) (hn : i ≠ j) (hl : ¬ (gt L i).lt (gt L j)) : (gt L j).lt (gt L i) := by
  have := List.pairwise_iff_getElem.1 h
  rw [gt_eq hi, gt_eq hj] at hl ⊢
  rcases Nat.lt_or_gt_of_ne hn with q | q
  · rcases this i j hi hj q with p | p
    · exact absurd p hl
    · exact p
  · rcases this j i hj hi q with p | p
    · exact p
    · exact absurd p hl
theorem Dst.sts {L M : List Lv} (h : Dst L) (p : M.Perm L) (s : Srt M) : StS L M := by
  refine ⟨s, fun k j => ?_⟩
  have hp : (cls k j M).Perm (cls k j L) := p.filter _
  have hc : (cls k j L).length ≤ 1 := by
    have hd : (cls k j L).Pairwise fun x y => x.lt y ∨ y.lt x := h.sublist List.filter_sublist
    cases hq : cls k j L with
    | nil => simp
    | cons x r =>
      cases r with
      | nil => simp
      | cons y r =>
        exfalso
        have hx := (mem_cls.1 (hq ▸ (List.mem_cons_self : x ∈ x :: y :: r))).2
        have hy := (mem_cls.1 (hq ▸ (by simp : y ∈ x :: y :: r))).2
        rw [hq] at hd
        have := (List.pairwise_cons.1 hd).1 y (by simp)
        unfold Lv.lt at this
        omega
  cases hq : cls k j L with
  | nil => rw [hq] at hp; exact hp.eq_nil
  | cons x r =>
    rw [hq] at hp hc
    have : r = [] := by cases r with
      | nil => rfl
      | cons y r => simp at hc
    subst this
    exact List.perm_singleton.1 hp
theorem StS.toPerm {l m : List Lv} (h : StS l m) : m.Perm l := List.perm_iff_count.2 fun x => by
  have := congrArg (List.count x) (h.2 x.key x.job)
  unfold cls at this
  rwa [List.count_filter (by simp), List.count_filter (by simp)] at this
theorem gt_app {P X : List Lv} {i : Nat} : gt (P ++ X) i = if i < P.length then gt P i else gt X (i - P.length) := by
  unfold gt
  rw [List.getElem?_append]
  split <;> rfl
theorem StS.rg {P X R m : List Lv} (h : StS X m) (hl : m.length = X.length) : Rg P.length (P.length + X.length) (P ++ (X ++ R)) (P ++ (m ++ R)) ∧ Sg P.length (P.length + X.length) (P ++ (m ++ R)) := by
  refine ⟨⟨by simp [hl], (List.Perm.append_left _ (List.Perm.append_right _ h.toPerm)), fun i hi => ?_, fun i i1 i2 => ?_⟩, fun i j i1 ij j2 => ?_⟩
  · rw [gt_app, gt_app, gt_app, gt_app]
    by_cases h1 : i < P.length
    · rw [if_pos h1, if_pos h1]
    · rw [if_neg h1, if_neg h1, if_neg (by omega), if_neg (by omega), hl]
  · have e : gt (P ++ (m ++ R)) i = gt m (i - P.length) := by rw [gt_app, if_neg (by omega), gt_app, if_pos (by omega)]
    have hm : gt m (i - P.length) ∈ m := by rw [gt_eq (by omega)]; exact List.getElem_mem _
    obtain ⟨j, hj, hje⟩ := List.mem_iff_getElem.1 (h.mem.1 hm)
    refine ⟨P.length + j, by omega, by omega, ?_⟩
    rw [e, gt_app, if_neg (by omega), gt_app, if_pos (by omega), ← hje]
    have : P.length + j - P.length = j := by omega
    rw [this, gt_eq hj]
  · have e : ∀ i, P.length ≤ i → i < P.length + X.length → gt (P ++ (m ++ R)) i = gt m (i - P.length) := fun i i1 i2 => by rw [gt_app, if_neg (by omega), gt_app, if_pos (by omega)]
    rw [e i i1 (by omega), e j (by omega) j2, gt_eq (by omega), gt_eq (by omega)]
    exact List.pairwise_iff_getElem.1 h.1 _ _ _ _ (by omega)
def Pre (a b : Nat) (L : List Lv) : Prop := 0 < a → ∀ i, a ≤ i → i < b → (gt L (a - 1)).lt (gt L i)
theorem Pre.rg {a b : Nat} {L M : List Lv} (h : Pre a b L) (r : Rg a b L M) : Pre a b M := fun ha i i1 i2 => by
  obtain ⟨j, j1, j2, e⟩ := r.inn i i1 i2
  rw [e, r.out (a - 1) (by omega)]
  exact h ha j j1 j2
def Og (a b a' b' : Nat) (L : List Lv) : Prop := ∀ i j, a ≤ i → i < j → j < b → (i < a' ∨ b' ≤ j) → ¬ (gt L j).lt (gt L i)
theorem Og.rg {a b a' b' : Nat} {L M : List Lv} (h : Og a b a' b' L) (r : Rg a' b' L M) (h1 : a ≤ a') (h2 : b' ≤ b) : Og a b a' b' M := fun i j i1 ij j2 hc => by
  by_cases hi : a' ≤ i ∧ i < b'
  · obtain ⟨i', p1, p2, e⟩ := r.inn i hi.1 hi.2
    rw [e, r.out j (by omega)]
    exact h i' j (by omega) (by omega) j2 (by omega)
  · rw [r.out i (by omega)]
    by_cases hj : a' ≤ j ∧ j < b'
    · obtain ⟨j', p1, p2, e⟩ := r.inn j hj.1 hj.2
      rw [e]
      exact h i j' (by omega) (by omega) (by omega) (by omega)
    · rw [r.out j (by omega)]
      exact h i j (by omega) ij j2 hc
theorem Og.all {a b a' b' : Nat} {L : List Lv} (h : Og a b a' b' L) (s : Sg a' b' L) : Sg a b L := fun i j i1 ij j2 => by
  by_cases hc : i < a' ∨ b' ≤ j
  · exact h i j i1 ij j2 hc
  · exact s i j (by omega) ij (by omega)
theorem Og.full (a b : Nat) (L : List Lv) : Og a b a b L := fun i j i1 ij j2 hc => by omega
end Go.Abs
namespace Go.Abs
open Go.Proofs
set_option maxRecDepth 100000
set_option linter.unusedVariables false
section
variable {B0 S : AH} {W : List Nat} {own : List Own} {ro : List Fct} {Q : Post} {k : AV → AC} {v : AV} {L : List Lv}
theorem wp_gl (H : Cx B0 W S (.sl v 4 (lvs L) :: own) ro) {z : Int} {i : Nat} (hz : z = (i : Int)) (hi : i < L.length) (h : wp EM (k (.agg (gt L i).cs)) S Q) : wp EM (.op (.saddr 4 v (I z)) fun p => .op (.load 4 true p) k) S Q := wp_ownLZ H hz (gt_some hi) h
theorem wp_gg (H : Cx B0 W S (.sl v 4 (lvs L) :: own) ro) {z : Int} {i : Nat} (hz : z = (i : Int)) (hi : i < L.length) (h : wp EM (k (.agg (gt L i).cs)) S Q) : wp EM (.op (.saddr 4 v (I z)) fun p => .gop (B true) true (.load 4 true p) k) S Q := wp_ownG H hz (gt_some hi) h
theorem wp_gn (H : Cx B0 W S own ro) (n : Nat) (hm : own[n]? = some (.sl v 4 (lvs L))) {z : Int} {i : Nat} (hz : z = (i : Int)) (hi : i < L.length) (h : wp EM (k (.agg (gt L i).cs)) S Q) : wp EM (.op (.saddr 4 v (I z)) fun p => .op (.load 4 true p) k) S Q := by
  subst hz; exact wp_ownN H n hm (gt_some hi) h
theorem wp_swap (H : Cx B0 W S (.sl v 4 (lvs L) :: own) ro) {z1 z2 z3 z4 : Int} {i j : Nat} (h2 : z2 = (j : Int)) (h1 : z1 = (i : Int)) (h3 : z3 = (i : Int)) (h4 : z4 = (j : Int)) (hi : i < L.length) (hj : j < L.length)
    (h : ∀ S1, Cx B0 W S1 (.sl v 4 (lvs (swp L i j)) :: own) ro → wp EM (k uv) S1 Q) :
    wp EM (.op (.saddr 4 v (I z2)) fun p => .op (.load 4 true p) fun y => .op (.saddr 4 v (I z1)) fun q => .op (.load 4 true q) fun x => .op (.saddr 4 v (I z3)) fun r => .op (.store 4 r y) fun _ => .op (.saddr 4 v (I z4)) fun s => .op (.store 4 s x) k) S Q := by
  refine wp_gl H h2 hj ?_
  refine wp_gl H h1 hi ?_
  refine wp_ownSZ H h3 hi fun S1 H => ?_
  exact wp_ownSZ H h4 (by simpa using hj) h
theorem reverse_ok {a b : Nat} (hab : a ≤ b) (hb : b ≤ L.length) (hl : L.length < 1000000) (H : Cx B0 W S (.sl v 4 (lvs L) :: own) ro) :
    wpC EM (.fn (.func 103) [] []) [v, I (a : Int), I (b : Int), ordF] S fun _ S' => ∃ M, Rg a b L M ∧ Cx B0 W S' (.sl v 4 (lvs M) :: own) ro := by
  refine wpC_fn (b := Tryz.a103) rfl rfl ?_
  unfold Tryz.a103 Tryz.a103x2 Tryz.a103x1 Tryz.a103x0
  refine wp_sub64 (by omega) (by omega) ?_
  refine wp_bind (wp_loop (wpL_inv (fun m vs S1 => ∃ (i j : Nat) (M : List Lv), vs = [I ((j : Int) - 1), I (i : Int)] ∧ a ≤ i ∧ j ≤ b ∧ m = j ∧ Rg a b L M ∧ Cx B0 W S1 (.sl v 4 (lvs M) :: own) ro) ?_ b ⟨a, b, L, rfl, by omega, by omega, rfl, Rg.refl .., H⟩))
  clear H
  rintro m vs S1 ⟨i, j, M, rfl, hi, hj, rfl, hr, H⟩
  have hml := hr.len
  refine wp_lss (fun hlt => ?_) (fun hge => ?_)
  · try(refine zz ?_;(repeat constructor);intro _)
    refine wp_bind ?_
    refine wp_swap (i := i) (j := m - 1) H (by omega) rfl rfl (by omega) (by omega) (by omega) fun S2 H => ?_
    refine wp_add64 (by omega) (by omega) ?_
    refine wp_sub64 (by omega) (by omega) (wp_ret ?_)
    show wp EM _ _ _
    refine wp_ret (.inl ⟨rfl, m - 1, by omega, i + 1, m - 1, _, ?_, by omega, by omega, rfl, hr.swp hb (by omega) (by omega) (by omega) (by omega), H⟩)
    show [I _, I _] = [I _, I _]
    congr 2
    · congr 2; omega
  · try(refine zz ?_;(repeat constructor);intro _)
    refine wp_ret (.inr ⟨by simp, ?_⟩)
    show wp EM _ _ _
    exact wp_ret ⟨rfl, M, hr, H⟩
theorem order2_ok {sp a b n : Nat} (ha : a < L.length) (hb : b < L.length) (hn : n < 1000) (H : Cx B0 W S (.obj sp (.row [I (n : Int)]) :: .sl v 4 (lvs L) :: own) ro) :
    wpC EM (.fn (.func 120) [] []) [v, I (a : Int), I (b : Int), .ptr sp 0, ordF] S fun r S' => ∃ p q n' : Nat, r = .tup [I (p : Int), I (q : Int)] ∧ ((p = a ∧ q = b) ∨ (p = b ∧ q = a)) ∧ n' ≤ n + 1 ∧ Cx B0 W S' (.obj sp (.row [I (n' : Int)]) :: .sl v 4 (lvs L) :: own) ro := by
  refine wpC_fn (b := Tryz.a120) rfl rfl ?_
  unfold Tryz.a120 Tryz.a120x1 Tryz.a120x0
  refine wp_gn H 1 rfl rfl hb ?_
  refine wp_gn H 1 rfl rfl ha ?_
  refine wp_callV H (orderL_ok (a := gt L b) (b := gt L a)) fun S1 H => ?_
  refine wp_lss (fun h => ?_) (fun h => ?_)
  · try(refine zz ?_;(repeat constructor);intro _)
    refine wp_loado H 0 rfl rfl ?_
    refine wp_add64 (by omega) (by omega) ?_
    try(refine zz ?_;(repeat constructor);intro _)
    refine wp_store H 0 rfl rfl rfl (Nat.le_refl _) fun S2 H => ?_
    refine wp_ret ⟨rfl, b, a, n + 1, rfl, .inr ⟨rfl, rfl⟩, by omega, ?_⟩
    exact H
  · try(refine zz ?_;(repeat constructor);intro _)
    exact wp_ret ⟨rfl, a, b, n, rfl, .inl ⟨rfl, rfl⟩, by omega, H⟩
theorem median_ok {sp a b c n : Nat} (ha : a < L.length) (hb : b < L.length) (hc : c < L.length) (hn : n < 900) (H : Cx B0 W S (.obj sp (.row [I (n : Int)]) :: .sl v 4 (lvs L) :: own) ro) :
    wpC EM (.fn (.func 117) [] []) [v, I (a : Int), I (b : Int), I (c : Int), .ptr sp 0, ordF] S fun r S' => ∃ p n' : Nat, r = I (p : Int) ∧ (p = a ∨ p = b ∨ p = c) ∧ n' ≤ n + 3 ∧ Cx B0 W S' (.obj sp (.row [I (n' : Int)]) :: .sl v 4 (lvs L) :: own) ro := by
  refine wpC_fn (b := Tryz.a117) rfl rfl ?_
  unfold Tryz.a117 Tryz.a117x0
  refine wp_call (wpC_mono (order2_ok ha hb (by omega) H) fun r S1 q => ?_)
  obtain ⟨p, q, n1, rfl, h1, hn1, H⟩ := q
  try(refine zz ?_;(repeat constructor);intro _)
  refine wp_call (wpC_mono (order2_ok (a := q) (b := c) (by omega) hc (by omega) H) fun r S2 q => ?_)
  obtain ⟨p2, q2, n2, rfl, h2, hn2, H⟩ := q
  try(refine zz ?_;(repeat constructor);intro _)
  refine wp_call (wpC_mono (order2_ok (a := p) (b := p2) (by omega) (by omega) (by omega) H) fun r S3 q => ?_)
  obtain ⟨p3, q3, n3, rfl, h3, hn3, H⟩ := q
  try(refine zz ?_;(repeat constructor);intro _)
  exact wp_ret ⟨rfl, q3, n3, rfl, by omega, by omega, H⟩
theorem medianAdj_ok {sp a n : Nat} (ha : 1 ≤ a) (hb : a + 1 < L.length) (hl : L.length < 1000000) (hn : n < 900) (H : Cx B0 W S (.obj sp (.row [I (n : Int)]) :: .sl v 4 (lvs L) :: own) ro) :
    wpC EM (.fn (.func 116) [] []) [v, I (a : Int), .ptr sp 0, ordF] S fun r S' => ∃ p n' : Nat, r = I (p : Int) ∧ (a - 1 ≤ p ∧ p ≤ a + 1) ∧ n' ≤ n + 3 ∧ Cx B0 W S' (.obj sp (.row [I (n' : Int)]) :: .sl v 4 (lvs L) :: own) ro := by
  refine wpC_fn (b := Tryz.a116) rfl rfl ?_
  unfold Tryz.a116
  refine wp_sub64 (by omega) (by omega) ?_
  refine wp_add64 (by omega) (by omega) ?_
  have K := median_ok (a := a - 1) (b := a) (c := a + 1) (by omega) (by omega) (by omega) hn H
  have e1 : ((a - 1 : Nat) : Int) = (a : Int) - 1 := by omega
  have e2 : ((a + 1 : Nat) : Int) = (a : Int) + 1 := by omega
  rw [e1, e2] at K
  refine wp_call (wpC_mono K fun r S1 q => ?_)
  obtain ⟨p, n1, rfl, h1, hn1, H⟩ := q
  exact wp_ret ⟨rfl, p, n1, rfl, by omega, hn1, H⟩
theorem wp_quoN {a b : Nat} (hb : 0 < b) (ha : a ≤ 9223372036854775807) (h : wp EM (k (I ((a / b : Nat) : Int))) S Q) : wp EM (.op (.bin .quo (I (a : Int)) (I (b : Int))) k) S Q := by
  refine wp_quo (c := ((a / b : Nat) : Int)) (by omega) ?_ h
  have : (a : Int).tdiv (b : Int) = ((a / b : Nat) : Int) := by rw [Int.tdiv_eq_ediv_of_nonneg (by omega)]; rfl
  rw [this]
  have : a / b ≤ a := Nat.div_le_self a b
  generalize a / b = c at *
  exact wrap64 (by omega) (by omega)
theorem wp_mulN {a b : Nat} (h1 : a * b ≤ 9223372036854775807) (h : wp EM (k (I ((a * b : Nat) : Int))) S Q) : wp EM (.op (.bin .mul (I (a : Int)) (I (b : Int))) k) S Q := by
  refine wp_mul (c := ((a * b : Nat) : Int)) ?_ h
  have : (a : Int) * (b : Int) = ((a * b : Nat) : Int) := by simp
  rw [this]
  exact wrap64 (by omega) (by omega)
theorem choosePivot_ok {a b : Nat} (hab : a + 8 ≤ b) (hb : b ≤ L.length) (hl : L.length < 1000000) (H : Cx B0 W S (.sl v 4 (lvs L) :: own) ro) :
    wpC EM (.fn (.func 102) [] []) [v, I (a : Int), I (b : Int), ordF] S fun r S' => ∃ (p : Nat) (h : Int), r = .tup [I (p : Int), I h] ∧ a ≤ p ∧ p < b ∧ Cx B0 W S' (.sl v 4 (lvs L) :: own) ro := by
  refine wpC_fn (b := Tryz.a102) rfl rfl ?_
  unfold Tryz.a102 Tryz.a102x4 Tryz.a102x3 Tryz.a102x2 Tryz.a102x1 Tryz.a102x0
  refine wp_sub64 (by omega) (by omega) ?_
  have e : (b : Int) - (a : Int) = ((b - a : Nat) : Int) := by omega
  rw [e]
  generalize hN : b - a = N
  refine wp_alloc H fun sp S1 H => ?_
  refine wp_quoN (a := N) (b := 4) (by omega) (by omega) ?_
  generalize hq : N / 4 = q
  refine wp_mulN (a := q) (b := 1) (by omega) ?_
  refine wp_add64 (by omega) (by omega) ?_
  refine wp_quoN (a := N) (b := 4) (by omega) (by omega) ?_
  rw [hq]
  refine wp_mulN (a := q) (b := 2) (by omega) ?_
  refine wp_add64 (by omega) (by omega) ?_
  refine wp_quoN (a := N) (b := 4) (by omega) (by omega) ?_
  rw [hq]
  refine wp_mulN (a := q) (b := 3) (by omega) ?_
  refine wp_add64 (by omega) (by omega) ?_
  refine wp_geq_t (by omega) ?_
  have f1 : (a : Int) + ((q * 1 : Nat) : Int) = ((a + q : Nat) : Int) := by omega
  have f2 : (a : Int) + ((q * 2 : Nat) : Int) = ((a + q * 2 : Nat) : Int) := by omega
  have f3 : (a : Int) + ((q * 3 : Nat) : Int) = ((a + q * 3 : Nat) : Int) := by omega
  rw [f1, f2, f3]
  have tail : ∀ (p n : Nat) (S : AH) (x y : AV), a ≤ p → p < b → n ≤ 100 → Cx B0 W S (.obj sp (.row [I (n : Int)]) :: .sl v 4 (lvs L) :: own) ro → wp EM (.op (.load 1 false (.ptr sp 0)) fun z => .bind (.op (.bin .eql z (I 0)) fun v15 => .ite v15 (.ret .ret [(I 1), (I (p : Int))]) (.op (.bin .eql z (I 12)) fun v16 => .ite v16 (.ret .ret [(I 2), (I (p : Int))]) (.ret .ret [(I 0), (I (p : Int))]))) (some 0) (fun v15 => .ret .ret [(nth v15 1), (nth v15 0)]) (fun v15 => [(nth v15 1), (nth v15 0)])) S (fun t vs S' => t = .ret ∧ ∃ h : Int, vs = [I (p : Int), I h] ∧ Cx B0 W S' (.sl v 4 (lvs L) :: own) ro) := by
    intro p n S x y h1 h2 h3 H
    refine wp_loado H 0 rfl rfl ?_
    refine wp_bind ?_
    refine wp_eql (fun h => ?_) (fun h => ?_)
    · try(refine zz ?_;(repeat constructor);intro _)
      exact wp_ret ⟨rfl, 1, rfl, H.dropAt 0⟩
    · try(refine zz ?_;(repeat constructor);intro _)
      refine wp_eql (fun h => ?_) (fun h => ?_)
      · try(refine zz ?_;(repeat constructor);intro _)
        exact wp_ret ⟨rfl, 2, rfl, H.dropAt 0⟩
      · try(refine zz ?_;(repeat constructor);intro _)
        exact wp_ret ⟨rfl, 0, rfl, H.dropAt 0⟩
  refine wp_bind ?_
  try(refine zz ?_;(repeat constructor);intro _)
  refine wp_geq (fun h50 => ?_) (fun h50 => ?_)
  · refine wp_bind (wp_ite_t ?_)
    refine wp_call (wpC_mono (medianAdj_ok (n := 0) (a := a + q) (by omega) (by omega) hl (by omega) H) fun r S2 z => ?_)
    obtain ⟨p1, n1, rfl, g1, hn1, H⟩ := z
    refine wp_call (wpC_mono (medianAdj_ok (n := n1) (a := a + q * 2) (by omega) (by omega) hl (by omega) H) fun r S3 z => ?_)
    obtain ⟨p2, n2, rfl, g2, hn2, H⟩ := z
    refine wp_call (wpC_mono (medianAdj_ok (n := n2) (a := a + q * 3) (by omega) (by omega) hl (by omega) H) fun r S4 z => ?_)
    obtain ⟨p3, n3, rfl, g3, hn3, H⟩ := z
    refine wp_ret ?_
    show wp EM _ _ _
    refine wp_call (wpC_mono (median_ok (n := n3) (a := p1) (b := p2) (c := p3) (by omega) (by omega) (by omega) (by omega) H) fun r S5 z => ?_)
    obtain ⟨p4, n4, rfl, g4, hn4, H⟩ := z
    refine wp_ret ?_
    show wp EM _ _ _
    refine wp_mono (tail p4 n4 S5 .no .no (by omega) (by omega) (by omega) H) fun t vs S' z => ?_
    obtain ⟨rfl, h, rfl, H⟩ := z
    exact ⟨rfl, p4, h, rfl, by omega, by omega, H⟩
  · refine wp_bind (wp_ite_f ?_)
    refine wp_ret ?_
    show wp EM _ _ _
    refine wp_call (wpC_mono (median_ok (a := a + q) (b := a + q * 2) (c := a + q * 3) (n := 0) (by omega) (by omega) (by omega) (by omega) H) fun r S5 z => ?_)
    obtain ⟨p4, n4, rfl, g4, hn4, H⟩ := z
    refine wp_ret ?_
    show wp EM _ _ _
    refine wp_mono (tail p4 n4 S5 .no .no (by omega) (by omega) (by omega) H) fun t vs S' z => ?_
    obtain ⟨rfl, h, rfl, H⟩ := z
    exact ⟨rfl, p4, h, rfl, by omega, by omega, H⟩
end
end Go.Abs
namespace Go.Abs
open Go.Proofs
set_option maxRecDepth 100000
set_option linter.unusedVariables false
/-! ### heaps -/
def Hp (f lo hi : Nat) (L : List Lv) : Prop := ∀ i c, lo ≤ i → (c = 2 * i + 1 ∨ c = 2 * i + 2) → c < hi → ¬ (gt L (f + i)).lt (gt L (f + c))
def Hq (f lo hi r : Nat) (L : List Lv) : Prop := (∀ i c, lo ≤ i → i ≠ r → (c = 2 * i + 1 ∨ c = 2 * i + 2) → c < hi → ¬ (gt L (f + i)).lt (gt L (f + c))) ∧ ∀ p c, lo ≤ p → (r = 2 * p + 1 ∨ r = 2 * p + 2) → (c = 2 * r + 1 ∨ c = 2 * r + 2) → c < hi → ¬ (gt L (f + p)).lt (gt L (f + c))
theorem Hq.done {f lo hi r : Nat} {L : List Lv} (h : Hq f lo hi r L) (k : ∀ c, (c = 2 * r + 1 ∨ c = 2 * r + 2) → c < hi → ¬ (gt L (f + r)).lt (gt L (f + c))) : Hp f lo hi L := fun i c h1 h2 h3 => by
  by_cases e : i = r
  · subst e; exact k c h2 h3
  · exact h.1 i c h1 e h2 h3
theorem Hq.start {f lo hi : Nat} {L : List Lv} (h : Hp f (lo + 1) hi L) : Hq f lo hi lo L := ⟨fun i c h1 h2 h3 h4 => h i c (by omega) h3 h4, fun p c h1 h2 => by omega⟩
theorem Hq.down {f lo hi r c : Nat} {L : List Lv} (h : Hq f lo hi r L) (hlo : lo ≤ r) (hc : c = 2 * r + 1 ∨ c = 2 * r + 2) (hhi : c < hi) (hl : f + hi ≤ L.length) (hlt : (gt L (f + r)).lt (gt L (f + c))) (hm : ∀ d, (d = 2 * r + 1 ∨ d = 2 * r + 2) → d < hi → ¬ (gt L (f + c)).lt (gt L (f + d))) : Hq f lo hi c (swp L (f + r) (f + c)) := by
  have hcr : r < c := by omega
  have e1 : gt (swp L (f + r) (f + c)) (f + r) = gt L (f + c) := gt_swp1 (by omega) (by omega)
  have e2 : gt (swp L (f + r) (f + c)) (f + c) = gt L (f + r) := gt_swp2 (by omega) (by omega)
  have e0 : ∀ i, i ≠ r → i ≠ c → gt (swp L (f + r) (f + c)) (f + i) = gt L (f + i) := fun i h1 h2 => gt_swp0 (by omega) (by omega) (by omega) (by omega)
  refine ⟨fun i d h1 h2 h3 h4 => ?_, fun p d h1 h2 h3 h4 => ?_⟩
  · by_cases hi' : i = r
    · subst hi'
      rw [e1]
      by_cases hd : d = c
      · subst hd; rw [e2]; exact Lv.lt_asymm hlt
      · rw [e0 d (by omega) hd]; exact hm d h3 h4
    · rw [e0 i hi' h2]
      by_cases hd : d = r
      · subst hd
        rw [e1]
        exact h.2 i c h1 h3 hc hhi
      · by_cases hd2 : d = c
        · exfalso; omega
        · rw [e0 d hd hd2]; exact h.1 i d h1 hi' h3 h4
  · have hp : p = r := by omega
    subst hp
    rw [e1, e0 d (by omega) (by omega)]
    exact h.1 c d (by omega) (by omega) h3 h4
theorem Hp.top {f hi : Nat} {L : List Lv} (h : Hp f 0 hi L) : ∀ i, i < hi → ¬ (gt L (f + 0)).lt (gt L (f + i)) := by
  intro i
  induction i using Nat.strongRecOn with
  | _ i ih =>
    intro hi'
    by_cases h0 : i = 0
    · subst h0; exact Lv.lt_irrefl _
    · have := ih ((i - 1) / 2) (by omega) (by omega)
      exact Lv.le_le (h ((i - 1) / 2) i (by omega) (by omega) hi') this
theorem Hp.out {f lo hi : Nat} {L M : List Lv} (h : Hp f lo hi L) (r : ∀ i, i < hi → lo ≤ i → gt M (f + i) = gt L (f + i)) : Hp f lo hi M := fun i c h1 h2 h3 => by
  rw [r i (by omega) h1, r c h3 (by omega)]; exact h i c h1 h2 h3
section
variable {B0 S : AH} {W : List Nat} {own : List Own} {ro : List Fct} {Q : Post} {k : AV → AC} {v : AV} {L : List Lv}
theorem sift_tail {f lo hi r c : Nat} {M : List Lv} {u : AV} {S2 : AH} {Q2 : Post} (hc : r < c) (hc2 : c < hi) (hl : f + hi ≤ M.length) (hb : M.length < 1000000) (H : Cx B0 W S2 (.sl v 4 (lvs M) :: own) ro)
    (h1 : ∀ S3, ¬ (gt M (f + r)).lt (gt M (f + c)) → Cx B0 W S3 (.sl v 4 (lvs M) :: own) ro → Q2 .ret [I (r : Int), I (c : Int)] S3)
    (h2 : ∀ S3, (gt M (f + r)).lt (gt M (f + c)) → Cx B0 W S3 (.sl v 4 (lvs (swp M (f + r) (f + c))) :: own) ro → Q2 .normal [I (c : Int), I (c : Int)] S3) :
    wp EM (Tryz.a113x4 [v, I (lo : Int), I (hi : Int), I (f : Int), ordF] [I (r : Int), u] [I (c : Int)]) S2 Q2 := by
  unfold Tryz.a113x4 Tryz.a113x3 Tryz.a113x2 Tryz.a113x1
  refine wp_add64 (by omega) (by omega) ?_
  refine wp_gl (i := f + r) H (by omega) (by omega) ?_
  refine wp_add64 (by omega) (by omega) ?_
  refine wp_gl (i := f + c) H (by omega) (by omega) ?_
  refine wp_callV H (orderL_ok (a := gt M (f + r)) (b := gt M (f + c))) fun S3 H => ?_
  refine wp_lss (fun h => ?_) (fun h => ?_)
  · refine wp_notT ?_
    try(refine zz ?_;(repeat constructor);intro _)
    refine wp_add64 (by omega) (by omega) ?_
    refine wp_add64 (by omega) (by omega) ?_
    refine wp_add64 (by omega) (by omega) ?_
    refine wp_gl (i := f + c) H (by omega) (by omega) ?_
    refine wp_add64 (by omega) (by omega) ?_
    refine wp_gl (i := f + r) H (by omega) (by omega) ?_
    refine wp_ownSZ (i := f + r) H (by omega) (by omega) fun S4 H => ?_
    refine wp_ownSZ (i := f + c) H (by omega) (by simp; omega) fun S5 H => ?_
    exact wp_ret (h2 S5 (lvo_lt.1 h) H)
  · refine wp_notF ?_
    try(refine zz ?_;(repeat constructor);intro _)
    exact wp_ret (h1 S3 (fun q => by have := lvo_lt.2 q; omega) H)
theorem siftDown_ok {f lo hi : Nat} (hlo : lo ≤ hi) (hl : f + hi ≤ L.length) (hb : L.length < 1000000) (hh : Hp f (lo + 1) hi L) (H : Cx B0 W S (.sl v 4 (lvs L) :: own) ro) :
    wpC EM (.fn (.func 113) [] []) [v, I (lo : Int), I (hi : Int), I (f : Int), ordF] S fun _ S' => ∃ M, Rg (f + lo) (f + hi) L M ∧ Hp f lo hi M ∧ Cx B0 W S' (.sl v 4 (lvs M) :: own) ro := by
  refine wpC_fn (b := Tryz.a113) rfl rfl ?_
  unfold Tryz.a113 Tryz.a113x9 Tryz.a113x8 Tryz.a113x7 Tryz.a113x6 Tryz.a113x5 Tryz.a113x4 Tryz.a113x3 Tryz.a113x2 Tryz.a113x1 Tryz.a113x0
  refine wp_bind (wp_loop (wpL_inv (fun m vs S1 => ∃ (r : Nat) (u : AV) (M : List Lv), vs = [I (r : Int), u] ∧ lo ≤ r ∧ (r ≤ hi) ∧ m = hi - r ∧ Rg (f + lo) (f + hi) L M ∧ Hq f lo hi r M ∧ Cx B0 W S1 (.sl v 4 (lvs M) :: own) ro) ?_ (hi - lo) ⟨lo, .no, L, rfl, by omega, hlo, rfl, Rg.refl .., Hq.start hh, H⟩))
  clear H hh
  rintro m vs S1 ⟨r, u, M, rfl, hr1, hr2, rfl, hg, hq, H⟩
  have hml := hg.len
  refine wp_bind ?_
  refine wp_mulN (a := 2) (b := r) (by omega) ?_
  refine wp_add64 (by omega) (by omega) ?_
  have e : ((2 * r : Nat) : Int) + 1 = ((2 * r + 1 : Nat) : Int) := by omega
  rw [e]
  refine wp_geq (fun h1 => ?_) (fun h1 => ?_)
  · try(refine zz ?_;(repeat constructor);intro _)
    refine wp_ret (.inr ⟨by simp, ?_⟩)
    show wp EM _ _ _
    exact wp_ret ⟨rfl, M, hg, hq.done fun c hc1 hc2 => by omega, H⟩
  try(refine zz ?_;(repeat constructor);intro _)
  have key : ∀ (c : Nat) (S2 : AH) (Q2 : Post), (c = 2 * r + 1 ∨ c = 2 * r + 2) → c < hi → (∀ d, (d = 2 * r + 1 ∨ d = 2 * r + 2) → d < hi → ¬ (gt M (f + c)).lt (gt M (f + d))) → Cx B0 W S2 (.sl v 4 (lvs M) :: own) ro → (∀ S3 w, Hp f lo hi M → Cx B0 W S3 (.sl v 4 (lvs M) :: own) ro → Q2 .ret [I (r : Int), w] S3) → (∀ S3 (N : List Lv), Rg (f + lo) (f + hi) L N → Hq f lo hi c N → Cx B0 W S3 (.sl v 4 (lvs N) :: own) ro → Q2 .normal [I (c : Int), I (c : Int)] S3) → wp EM (Tryz.a113x4 [v, I (lo : Int), I (hi : Int), I (f : Int), ordF] [I (r : Int), u] [I (c : Int)]) S2 Q2 := by
    intro c S2 Q2 hc hc2 hm H k1 k2
    refine sift_tail (by omega) hc2 (by omega) (by omega) H (fun S3 hn H => k1 S3 _ (hq.done fun d hd hd2 => ?_) H) (fun S3 hn H => k2 S3 _ (hg.swp (by omega) (by omega) (by omega) (by omega) (by omega)) (hq.down hr1 hc hc2 (by omega) hn hm) H)
    exact fun q => hm d hd hd2 (Lv.le_lt hn q)
  refine wp_add64 (by omega) (by omega) ?_
  refine wp_lss (fun h2 => ?_) (fun h2 => ?_)
  · try(refine zz ?_;(repeat constructor);intro _)
    refine wp_add64 (by omega) (by omega) ?_
    try(refine zz ?_;(repeat constructor);intro _)
    refine wp_gg (i := f + (2 * r + 1)) H (by omega) (by omega) ?_
    try(refine zz ?_;(repeat constructor);intro _)
    refine wp_add64 (by omega) (by omega) ?_
    try(refine zz ?_;(repeat constructor);intro _)
    refine wp_add64 (by omega) (by omega) ?_
    try(refine zz ?_;(repeat constructor);intro _)
    refine wp_gg (i := f + (2 * r + 2)) H (by omega) (by omega) ?_
    try(refine zz ?_;(repeat constructor);intro _)
    refine wp_callV H (orderL_ok (a := gt M (f + (2 * r + 1))) (b := gt M (f + (2 * r + 2)))) fun S2 H => ?_
    try(refine zz ?_;(repeat constructor);intro _)
    refine wp_lss (fun h3 => ?_) (fun h3 => ?_)
    · have h3 := lvo_lt.1 h3
      try(refine zz ?_;(repeat constructor);intro _)
      refine wp_bind ?_
      try(refine zz ?_;(repeat constructor);intro _)
      refine wp_add64 (by omega) (by omega) (wp_ret ?_)
      have e2 : ((2 * r + 1 : Nat) : Int) + 1 = ((2 * r + 2 : Nat) : Int) := by omega
      rw [e2]
      refine key (2 * r + 2) S2 _ (.inr rfl) (by omega) (fun d hd hd2 => ?_) H (fun S3 w hp H => ?_) (fun S3 N hg' hq' H => ?_)
      · rcases hd with rfl | rfl
        · exact Lv.lt_asymm h3
        · exact Lv.lt_irrefl _
      · exact .inr ⟨by simp, rfl, M, hg, hp, H⟩
      · exact wp_ret (.inl ⟨rfl, hi - (2 * r + 2), by omega, 2 * r + 2, _, N, rfl, by omega, by omega, rfl, hg', hq', H⟩)
    · have h3 : ¬ (gt M (f + (2 * r + 1))).lt (gt M (f + (2 * r + 2))) := fun q => by have := lvo_lt.2 q; omega
      try(refine zz ?_;(repeat constructor);intro _)
      refine wp_bind ?_
      try(refine zz ?_;(repeat constructor);intro _)
      refine wp_ret ?_
      refine key (2 * r + 1) S2 _ (.inl rfl) (by omega) (fun d hd hd2 => ?_) H (fun S3 w hp H => ?_) (fun S3 N hg' hq' H => ?_)
      · rcases hd with rfl | rfl
        · exact Lv.lt_irrefl _
        · exact h3
      · exact .inr ⟨by simp, rfl, M, hg, hp, H⟩
      · exact wp_ret (.inl ⟨rfl, hi - (2 * r + 1), by omega, 2 * r + 1, _, N, rfl, by omega, by omega, rfl, hg', hq', H⟩)
  · try(refine zz ?_;(repeat constructor);intro _)
    refine wp_bind ?_
    try(refine zz ?_;(repeat constructor);intro _)
    refine wp_ret ?_
    refine key (2 * r + 1) S1 _ (.inl rfl) (by omega) (fun d hd hd2 => ?_) H (fun S3 w hp H => ?_) (fun S3 N hg' hq' H => ?_)
    · rcases hd with rfl | rfl
      · exact Lv.lt_irrefl _
      · omega
    · exact .inr ⟨by simp, rfl, M, hg, hp, H⟩
    · exact wp_ret (.inl ⟨rfl, hi - (2 * r + 1), by omega, 2 * r + 1, _, N, rfl, by omega, by omega, rfl, hg', hq', H⟩)
theorem heapSort_ok {a b : Nat} (hab : a < b) (hl : b ≤ L.length) (hb : L.length < 1000000) (H : Cx B0 W S (.sl v 4 (lvs L) :: own) ro) :
    wpC EM (.fn (.func 100) [] []) [v, I (a : Int), I (b : Int), ordF] S fun _ S' => ∃ M, Rg a b L M ∧ Sg a b M ∧ Cx B0 W S' (.sl v 4 (lvs M) :: own) ro := by
  refine wpC_fn (b := Tryz.a100) rfl rfl ?_
  unfold Tryz.a100 Tryz.a100x6 Tryz.a100x5 Tryz.a100x4 Tryz.a100x3 Tryz.a100x2 Tryz.a100x1 Tryz.a100x0
  refine wp_sub64 (by omega) (by omega) ?_
  have e : (b : Int) - (a : Int) = ((b - a : Nat) : Int) := by omega
  rw [e]
  generalize hN : b - a = N
  refine wp_sub64 (by omega) (by omega) ?_
  have e1 : (N : Int) - 1 = ((N - 1 : Nat) : Int) := by omega
  rw [e1]
  refine wp_quoN (a := N - 1) (b := 2) (by omega) (by omega) ?_
  refine wp_bind (wp_loop (wpL_inv (fun m vs S1 => ∃ (j : Nat) (M : List Lv), vs = [I ((j : Int) - 1)] ∧ j ≤ N ∧ m = j ∧ Rg a b L M ∧ Hp a j N M ∧ Cx B0 W S1 (.sl v 4 (lvs M) :: own) ro) ?_ ((N - 1) / 2 + 1) ⟨(N - 1) / 2 + 1, L, ?_, by omega, rfl, Rg.refl .., fun i c h1 h2 h3 => by omega, H⟩))
  rotate_left
  · show [I _] = [I _]
    congr 2; omega
  clear H
  rintro m vs S1 ⟨j, M, rfl, hj, rfl, hg, hh, H⟩
  have hml := hg.len
  refine wp_geq (fun h0 => ?_) (fun h0 => ?_)
  · try(refine zz ?_;(repeat constructor);intro _)
    refine wp_bind ?_
    have hm1 : m - 1 + 1 = m := by omega
    have K := siftDown_ok (f := a) (lo := m - 1) (hi := N) (L := M) (by omega) (by omega) (by omega) (by rw [hm1]; exact hh) H
    have e2 : ((m - 1 : Nat) : Int) = (m : Int) - 1 := by omega
    rw [e2] at K
    refine wp_call (wpC_mono K fun r S2 q => ?_)
    obtain ⟨M2, g2, h2, H⟩ := q
    refine wp_ret ?_
    show wp EM _ _ _
    refine wp_sub64 (by omega) (by omega) (wp_ret (.inl ⟨rfl, m - 1, by omega, m - 1, M2, ?_, by omega, rfl, hg.trans (g2.mono (by omega) (by omega)), h2, H⟩))
    show [I _] = [I _]
    rw [e2]
  · have : m = 0 := by omega
    subst this
    try(refine zz ?_;(repeat constructor);intro _)
    refine wp_ret (.inr ⟨by simp, ?_⟩)
    show wp EM _ _ _
    refine wp_sub64 (by omega) (by omega) ?_
    refine wp_bind (wp_loop (wpL_inv (fun m vs S1 => ∃ (j : Nat) (M : List Lv), vs = [I ((j : Int) - 1)] ∧ j ≤ N ∧ m = j ∧ Rg a b L M ∧ Hp a 0 j M ∧ Og a b a (a + j) M ∧ Cx B0 W S1 (.sl v 4 (lvs M) :: own) ro) ?_ N ⟨N, M, rfl, by omega, rfl, hg, hh, ?_, H⟩))
    rotate_left
    · have : a + N = b := by omega
      rw [this]; exact Og.full a b M
    clear H hh hg hml
    rintro m vs S1 ⟨j, M, rfl, hj, rfl, hg, hh, ho, H⟩
    have hml := hg.len
    refine wp_geq (fun h0 => ?_) (fun h0 => ?_)
    · try(refine zz ?_;(repeat constructor);intro _)
      refine wp_bind ?_
      refine wp_add64 (by omega) (by omega) ?_
      refine wp_add64 (by omega) (by omega) ?_
      refine wp_swap (i := a) (j := a + (m - 1)) H (by omega) rfl rfl (by omega) (by omega) (by omega) fun S2 H => ?_
      have g1 : gt (swp M a (a + (m - 1))) a = gt M (a + (m - 1)) := gt_swp1 (by omega) (by omega)
      have g2 : gt (swp M a (a + (m - 1))) (a + (m - 1)) = gt M a := gt_swp2 (by omega) (by omega)
      have g0 : ∀ i, i ≠ a → i ≠ a + (m - 1) → gt (swp M a (a + (m - 1))) i = gt M i := fun i h1 h2 => gt_swp0 (by omega) (by omega) h1 h2
      have K := siftDown_ok (f := a) (lo := 0) (hi := m - 1) (by omega) (by rw [swp_len]; omega) (by rw [swp_len]; omega) (fun i c h1 h2 h3 => by
        rw [g0 (a + i) (by omega) (by omega), g0 (a + c) (by omega) (by omega)]
        exact hh i c (by omega) h2 (by omega)) H
      have e2 : ((m - 1 : Nat) : Int) = (m : Int) - 1 := by omega
      rw [e2] at K
      refine wp_call (wpC_mono K fun r S3 q => ?_)
      obtain ⟨M2, g3, h2, H⟩ := q
      refine wp_ret ?_
      show wp EM _ _ _
      have ho2 : Og a b a (a + (m - 1)) (swp M a (a + (m - 1))) := fun p q p1 pq q2 hc => by
        have hq : a + (m - 1) ≤ q := by omega
        by_cases hqe : q = a + (m - 1)
        · subst hqe
          rw [g2]
          by_cases hpa : p = a
          · subst hpa; rw [g1]; exact hh.top (m - 1) (by omega)
          · rw [g0 p hpa (by omega)]
            have := hh.top (p - a) (by omega)
            have e3 : a + (p - a) = p := by omega
            rwa [e3] at this
        · rw [g0 q (by omega) hqe]
          by_cases hpa : p = a
          · subst hpa; rw [g1]; exact ho _ q (by omega) (by omega) q2 (.inr (by omega))
          · by_cases hpm : p = a + (m - 1)
            · subst hpm; rw [g2]; exact ho _ q (by omega) (by omega) q2 (.inr (by omega))
            · rw [g0 p hpa hpm]; exact ho p q p1 pq q2 (.inr (by omega))
      refine wp_sub64 (by omega) (by omega) (wp_ret (.inl ⟨rfl, m - 1, by omega, m - 1, M2, ?_, by omega, rfl, ?_, h2, ?_, H⟩))
      · show [I _] = [I _]
        rw [e2]
      · exact (hg.swp hl (by omega) (by omega) (by omega) (by omega)).trans (g3.mono (by omega) (by omega))
      · exact ho2.rg g3 (by omega) (by omega)
    · have : m = 0 := by omega
      subst this
      try(refine zz ?_;(repeat constructor);intro _)
      refine wp_ret (.inr ⟨by simp, ?_⟩)
      show wp EM _ _ _
      exact wp_ret ⟨rfl, M, hg, ho.all fun i j h1 h2 h3 => by omega, H⟩
end
end Go.Abs
namespace Go.Abs
open Go.Proofs
set_option maxRecDepth 100000
set_option linter.unusedVariables false
/-! ### a range is parted -/
structure Pt (a b i j : Nat) (x0 : Lv) (L M : List Lv) : Prop where
  rg : Rg a b L M
  bl : b ≤ L.length
  pv : gt M a = x0
  ia : a < i
  ij : i ≤ j + 1
  ja : a ≤ j
  jb : j < b
  lo : ∀ p, a < p → p < i → (gt M p).lt x0
  hi : ∀ p, j < p → p < b → ¬ (gt M p).lt x0
theorem Pt.up {a b i j : Nat} {x0 : Lv} {L M : List Lv} (h : Pt a b i j x0 L M) (h1 : i ≤ j) (h2 : (gt M i).lt x0) : Pt a b (i + 1) j x0 L M := { h with
  ia := by have := h.ia; omega
  ij := by omega
  lo := fun p p1 p2 => by
    by_cases e : p = i
    · subst e; exact h2
    · exact h.lo p p1 (by omega) }
theorem Pt.down {a b i j : Nat} {x0 : Lv} {L M : List Lv} (h : Pt a b i j x0 L M) (h1 : i ≤ j) (h2 : ¬ (gt M j).lt x0) : Pt a b i (j - 1) x0 L M := { h with
  ij := by omega
  ja := by have := h.ia; omega
  jb := by have := h.jb; omega
  hi := fun p p1 p2 => by
    by_cases e : p = j
    · subst e; exact h2
    · exact h.hi p (by omega) p2 }
theorem Pt.swap {a b i j : Nat} {x0 : Lv} {L M : List Lv} (h : Pt a b i j x0 L M) (h1 : i < j) (h2 : ¬ (gt M i).lt x0) (h3 : (gt M j).lt x0) : Pt a b (i + 1) (j - 1) x0 L (swp M i j) := by
  have hl := h.rg.len
  have hb := h.bl
  have hia := h.ia
  have hjb := h.jb
  have g1 : gt (swp M i j) i = gt M j := gt_swp1 (by omega) (by omega)
  have g2 : gt (swp M i j) j = gt M i := gt_swp2 (by omega) (by omega)
  have g0 : ∀ p, p ≠ i → p ≠ j → gt (swp M i j) p = gt M p := fun p p1 p2 => gt_swp0 (by omega) (by omega) p1 p2
  refine ⟨h.rg.swp hb (by omega) (by omega) (by omega) (by omega), hb, by rw [g0 a (by omega) (by omega)]; exact h.pv, by omega, by omega, by omega, by omega, fun p p1 p2 => ?_, fun p p1 p2 => ?_⟩
  · by_cases e : p = i
    · subst e; rw [g1]; exact h3
    · rw [g0 p e (by omega)]; exact h.lo p p1 (by omega)
  · by_cases e : p = j
    · subst e; rw [g2]; exact h2
    · rw [g0 p (by omega) e]; exact h.hi p (by omega) p2
def Parted (a b mid : Nat) (L M : List Lv) : Prop := a ≤ mid ∧ mid < b ∧ Rg a b L M ∧ (∀ p, a ≤ p → p < mid → (gt M p).lt (gt M mid)) ∧ ∀ p, mid < p → p < b → ¬ (gt M p).lt (gt M mid)
theorem Pt.fin {a b i j : Nat} {x0 : Lv} {L M : List Lv} (h : Pt a b i j x0 L M) (h1 : j < i) : Parted a b j L (swp M j a) := by
  have hl := h.rg.len
  have hb := h.bl
  have hia := h.ia
  have hja := h.ja
  have hjb := h.jb
  have g1 : gt (swp M j a) j = gt M a := gt_swp1 (by omega) (by omega)
  have g2 : gt (swp M j a) a = gt M j := gt_swp2 (by omega) (by omega)
  have g0 : ∀ p, p ≠ j → p ≠ a → gt (swp M j a) p = gt M p := fun p p1 p2 => gt_swp0 (by omega) (by omega) p1 p2
  refine ⟨hja, hjb, h.rg.swp hb (by omega) (by omega) (by omega) (by omega), fun p p1 p2 => ?_, fun p p1 p2 => ?_⟩
  · rw [g1, h.pv]
    by_cases e : p = a
    · subst e; rw [g2]; exact h.lo j (by omega) h1
    · rw [g0 p (by omega) e]; exact h.lo p (by omega) (by omega)
  · rw [g1, h.pv, g0 p (by omega) (by omega)]; exact h.hi p p1 p2
section
variable {B0 S : AH} {W : List Nat} {own : List Own} {ro : List Fct} {Q : Post} {k : AV → AC} {v : AV} {L : List Lv}
theorem part3_ok {a b pv i j : Nat} {x0 : Lv} {M : List Lv} {Q2 : Post} (hb : L.length < 1000000) (P : Pt a b i j x0 L M) (H : Cx B0 W S (.sl v 4 (lvs M) :: own) ro)
    (hq : ∀ S' (i j : Nat) (M : List Lv), Pt a b i j x0 L M → j < i → Cx B0 W S' (.sl v 4 (lvs M) :: own) ro → Q2 (.exit 4) [I (j : Int), I (i : Int)] S') :
    wp EM (Tryz.a106x22 [v, I (a : Int), I (b : Int), I (pv : Int), ordF] (I (i : Int)) (I (j : Int))) S Q2 := by
  unfold Tryz.a106x22 Tryz.a106x21 Tryz.a106x13 Tryz.a106x12 Tryz.a106x11 Tryz.a106x10
  refine wp_loop (wpL_inv (fun m vs S1 => ∃ (i j : Nat) (M : List Lv), vs = [I (j : Int), I (i : Int)] ∧ m = j + 1 - i ∧ Pt a b i j x0 L M ∧ Cx B0 W S1 (.sl v 4 (lvs M) :: own) ro) ?_ (j + 1 - i) ⟨i, j, M, rfl, rfl, P, H⟩)
  clear H P M
  rintro m vs S1 ⟨i, j, M, rfl, rfl, P, H⟩
  refine wp_bind ?_
  refine wp_bind (wp_loop (wpL_inv (fun m vs S1 => ∃ i' : Nat, vs = [I (i' : Int)] ∧ m = b - i' ∧ i ≤ i' ∧ Pt a b i' j x0 L M ∧ Cx B0 W S1 (.sl v 4 (lvs M) :: own) ro) ?_ (b - i) ⟨i, rfl, rfl, Nat.le_refl _, P, H⟩))
  clear H P
  rintro m vs S1 ⟨i', rfl, rfl, hii, P, H⟩
  have hml := P.rg.len
  have q1 := P.ia
  have q2 := P.jb
  have q3 := P.bl
  have next : ∀ S1, Cx B0 W S1 (.sl v 4 (lvs M) :: own) ro → (i' ≤ j → ¬ (gt M i').lt x0) → ∀ Q3 : Post, (∀ S' (M' : List Lv) (i2 j2 : Nat), j2 + 1 - i2 < j + 1 - i → Pt a b i2 j2 x0 L M' → Cx B0 W S' (.sl v 4 (lvs M') :: own) ro → Q3 .normal [I (j2 : Int), I (i2 : Int)] S') → (∀ S' (j2 : Nat), Pt a b i' j2 x0 L M → j2 < i' → Cx B0 W S' (.sl v 4 (lvs M) :: own) ro → Q3 (.exit 4) [I (j2 : Int), I (i' : Int)] S') →
      wp EM (.bind (Tryz.a106x17 [v, I (a : Int), I (b : Int), I (pv : Int), ordF] [I (j : Int), I (i : Int)] [I (i' : Int)]) (some 8) (fun v26 => Tryz.a106x20 [v, I (a : Int), I (b : Int), I (pv : Int), ordF] [I (i' : Int)] v26) (fun v26 => [(nth v26 0), (nth [I (i' : Int)] 0)])) S1 Q3 := by
    clear H
    intro S1 H hi Q3 k1 k2
    unfold Tryz.a106x20 Tryz.a106x19 Tryz.a106x18 Tryz.a106x17 Tryz.a106x16 Tryz.a106x15 Tryz.a106x14
    refine wp_bind (wp_loop (wpL_inv (fun m vs S1 => ∃ j' : Nat, vs = [I (j' : Int)] ∧ m = j' ∧ j' ≤ j ∧ Pt a b i' j' x0 L M ∧ Cx B0 W S1 (.sl v 4 (lvs M) :: own) ro) ?_ j ⟨j, rfl, rfl, Nat.le_refl _, P, H⟩))
    clear H P
    rintro m vs S1 ⟨j', rfl, rfl, hjj, P, H⟩
    refine wp_leq (fun hle => ?_) (fun hgt => ?_)
    · try(refine zz ?_;(repeat constructor);intro _)
      refine wp_gg (i := m) H rfl (by omega) ?_
      try(refine zz ?_;(repeat constructor);intro _)
      refine wp_gg (i := a) H rfl (by omega) ?_
      try(refine zz ?_;(repeat constructor);intro _)
      refine wp_callV H (orderL_ok (a := gt M m) (b := gt M a)) fun S2 H => ?_
      try(refine zz ?_;(repeat constructor);intro _)
      refine wp_lss (fun h => ?_) (fun h => ?_)
      · have h := lvo_lt.1 h
        rw [P.pv] at h
        try(refine zz ?_;(repeat constructor);intro _)
        refine wp_notT ?_
        try(refine zz ?_;(repeat constructor);intro _)
        refine wp_ret (.inr ⟨by simp, ?_⟩)
        show wp EM _ _ _
        refine wp_gtr_f (by omega) ?_
        try(refine zz ?_;(repeat constructor);intro _)
        have hne : i' ≠ m := fun e => hi (by omega) (e ▸ h)
        refine wp_swap (i := i') (j := m) H rfl rfl rfl rfl (by omega) (by omega) fun S3 H => ?_
        refine wp_add64 (by omega) (by omega) ?_
        refine wp_sub64 (by omega) (by omega) (wp_ret ?_)
        have e1 : (i' : Int) + 1 = ((i' + 1 : Nat) : Int) := by omega
        have e2 : (m : Int) - 1 = ((m - 1 : Nat) : Int) := by omega
        rw [e1, e2]
        exact k1 S3 _ (i' + 1) (m - 1) (by omega) (P.swap (by omega) (hi (by omega)) h) H
      · have h : ¬ (gt M m).lt (gt M a) := fun q => by have := lvo_lt.2 q; omega
        rw [P.pv] at h
        try(refine zz ?_;(repeat constructor);intro _)
        refine wp_notF ?_
        try(refine zz ?_;(repeat constructor);intro _)
        refine wp_bind ?_
        refine wp_sub64 (by omega) (by omega) (wp_ret ?_)
        show wp EM _ _ _
        have e2 : (m : Int) - 1 = ((m - 1 : Nat) : Int) := by omega
        exact wp_ret (.inl ⟨rfl, m - 1, by omega, m - 1, by rw [← e2]; rfl, rfl, by omega, P.down (by omega) h, H⟩)
    · try(refine zz ?_;(repeat constructor);intro _)
      refine wp_ret (.inr ⟨by simp, ?_⟩)
      show wp EM _ _ _
      refine wp_gtr_t (by omega) ?_
      try(refine zz ?_;(repeat constructor);intro _)
      exact wp_ret (k2 S1 m P (by omega) H)
  refine wp_leq (fun hle => ?_) (fun hgt => ?_)
  · try(refine zz ?_;(repeat constructor);intro _)
    refine wp_gg (i := i') H rfl (by omega) ?_
    try(refine zz ?_;(repeat constructor);intro _)
    refine wp_gg (i := a) H rfl (by omega) ?_
    try(refine zz ?_;(repeat constructor);intro _)
    refine wp_callV H (orderL_ok (a := gt M i') (b := gt M a)) fun S2 H => ?_
    try(refine zz ?_;(repeat constructor);intro _)
    refine wp_lss (fun h => ?_) (fun h => ?_)
    · have h := lvo_lt.1 h
      rw [P.pv] at h
      try(refine zz ?_;(repeat constructor);intro _)
      refine wp_bind ?_
      refine wp_add64 (by omega) (by omega) (wp_ret ?_)
      show wp EM _ _ _
      exact wp_ret (.inl ⟨rfl, b - (i' + 1), by omega, i' + 1, rfl, rfl, by omega, P.up (by omega) h, H⟩)
    · have h : ¬ (gt M i').lt (gt M a) := fun q => by have := lvo_lt.2 q; omega
      rw [P.pv] at h
      try(refine zz ?_;(repeat constructor);intro _)
      refine wp_ret (.inr ⟨by simp, ?_⟩)
      show wp EM _ _ _
      refine next S2 H (fun _ => h) _ (fun S' M' i2 j2 hlt P2 H => ?_) (fun S' j2 P2 hlt H => ?_)
      · show wp EM _ _ _
        exact wp_ret (.inl ⟨rfl, j2 + 1 - i2, hlt, i2, j2, M', rfl, rfl, P2, H⟩)
      · exact .inr ⟨by simp, hq S' i' j2 M P2 hlt H⟩
  · try(refine zz ?_;(repeat constructor);intro _)
    refine wp_ret (.inr ⟨by simp, ?_⟩)
    show wp EM _ _ _
    refine next S1 H (fun _ => by omega) _ (fun S' M' i2 j2 hlt P2 H => ?_) (fun S' j2 P2 hlt H => ?_)
    · show wp EM _ _ _
      exact wp_ret (.inl ⟨rfl, j2 + 1 - i2, hlt, i2, j2, M', rfl, rfl, P2, H⟩)
    · exact .inr ⟨by simp, hq S' i' j2 M P2 hlt H⟩
theorem part2_ok {a b pv i : Nat} {x0 : Lv} {M : List Lv} {Q2 : Post} (hb : L.length < 1000000) (P : Pt a b i (b - 1) x0 L M) (hi : i ≤ b - 1 → ¬ (gt M i).lt x0) (H : Cx B0 W S (.sl v 4 (lvs M) :: own) ro)
    (hq : ∀ S' (mid : Nat) (fl : Bool) (M : List Lv), Parted a b mid L M → Cx B0 W S' (.sl v 4 (lvs M) :: own) ro → Q2 .ret [I (mid : Int), B fl] S') :
    wp EM (Tryz.a106x27 [v, I (a : Int), I (b : Int), I (pv : Int), ordF] (I ((b - 1 : Nat) : Int)) [I (i : Int)]) S Q2 := by
  unfold Tryz.a106x27 Tryz.a106x26 Tryz.a106x25 Tryz.a106x24 Tryz.a106x23 Tryz.a106x9 Tryz.a106x8 Tryz.a106x7 Tryz.a106x6 Tryz.a106x5 Tryz.a106x4
  have hml := P.rg.len
  have q1 := P.ia
  have q2 := P.jb
  have q3 := P.bl
  refine wp_bind (wp_loop (wpL_inv (fun m vs S1 => ∃ j' : Nat, vs = [I (j' : Int)] ∧ m = j' ∧ j' ≤ b - 1 ∧ Pt a b i j' x0 L M ∧ Cx B0 W S1 (.sl v 4 (lvs M) :: own) ro) ?_ (b - 1) ⟨b - 1, rfl, rfl, Nat.le_refl _, P, H⟩))
  clear H P
  rintro m vs S1 ⟨j', rfl, rfl, hjj, P, H⟩
  refine wp_leq (fun hle => ?_) (fun hgt => ?_)
  · try(refine zz ?_;(repeat constructor);intro _)
    refine wp_gg (i := m) H rfl (by omega) ?_
    try(refine zz ?_;(repeat constructor);intro _)
    refine wp_gg (i := a) H rfl (by omega) ?_
    try(refine zz ?_;(repeat constructor);intro _)
    refine wp_callV H (orderL_ok (a := gt M m) (b := gt M a)) fun S2 H => ?_
    try(refine zz ?_;(repeat constructor);intro _)
    refine wp_lss (fun h => ?_) (fun h => ?_)
    · have h := lvo_lt.1 h
      rw [P.pv] at h
      try(refine zz ?_;(repeat constructor);intro _)
      refine wp_notT ?_
      try(refine zz ?_;(repeat constructor);intro _)
      refine wp_ret (.inr ⟨by simp, ?_⟩)
      show wp EM _ _ _
      refine wp_gtr_f (by omega) ?_
      try(refine zz ?_;(repeat constructor);intro _)
      have hne : i ≠ m := fun e => hi (by omega) (e ▸ h)
      refine wp_swap (i := i) (j := m) H rfl rfl rfl rfl (by omega) (by omega) fun S3 H => ?_
      refine wp_add64 (by omega) (by omega) ?_
      refine wp_sub64 (by omega) (by omega) ?_
      have e1 : (i : Int) + 1 = ((i + 1 : Nat) : Int) := by omega
      have e2 : (m : Int) - 1 = ((m - 1 : Nat) : Int) := by omega
      rw [e1, e2]
      refine wp_bind ?_
      refine part3_ok hb (P.swap (by omega) (hi (by omega)) h) H fun S4 i2 j2 M2 P2 hlt H => ?_
      show wp EM _ _ _
      have hml2 := P2.rg.len
      have q12 := P2.ia
      have q22 := P2.jb
      refine wp_gl (i := a) H rfl (by omega) ?_
      refine wp_gl (i := j2) H rfl (by omega) ?_
      refine wp_ownSZ (i := j2) H rfl (by omega) fun S5 H => ?_
      refine wp_ownSZ (i := a) H rfl (by simp; omega) fun S6 H => ?_
      exact wp_ret (hq S6 j2 false _ (P2.fin hlt) H)
    · have h : ¬ (gt M m).lt (gt M a) := fun q => by have := lvo_lt.2 q; omega
      rw [P.pv] at h
      try(refine zz ?_;(repeat constructor);intro _)
      refine wp_notF ?_
      try(refine zz ?_;(repeat constructor);intro _)
      refine wp_bind ?_
      refine wp_sub64 (by omega) (by omega) (wp_ret ?_)
      show wp EM _ _ _
      have e2 : (m : Int) - 1 = ((m - 1 : Nat) : Int) := by omega
      exact wp_ret (.inl ⟨rfl, m - 1, by omega, m - 1, by rw [← e2]; rfl, rfl, by omega, P.down (by omega) h, H⟩)
  · try(refine zz ?_;(repeat constructor);intro _)
    refine wp_ret (.inr ⟨by simp, ?_⟩)
    show wp EM _ _ _
    refine wp_gtr_t (by omega) ?_
    try(refine zz ?_;(repeat constructor);intro _)
    have q4 := P.ja
    have q5 := P.jb
    refine wp_gl (i := a) H rfl (by omega) ?_
    refine wp_gl (i := m) H rfl (by omega) ?_
    refine wp_ownSZ (i := m) H rfl (by omega) fun S5 H => ?_
    refine wp_ownSZ (i := a) H rfl (by simp; omega) fun S6 H => ?_
    exact wp_ret (hq S6 m true _ (P.fin (by omega)) H)
theorem partition_ok {a b pv : Nat} (hab : a + 1 < b) (hp1 : a ≤ pv) (hp2 : pv < b) (hl : b ≤ L.length) (hb : L.length < 1000000) (H : Cx B0 W S (.sl v 4 (lvs L) :: own) ro) :
    wpC EM (.fn (.func 106) [] []) [v, I (a : Int), I (b : Int), I (pv : Int), ordF] S fun r S' => ∃ (mid : Nat) (fl : Bool) (M : List Lv), r = .tup [I (mid : Int), B fl] ∧ Parted a b mid L M ∧ Cx B0 W S' (.sl v 4 (lvs M) :: own) ro := by
  refine wpC_fn (b := Tryz.a106) rfl rfl ?_
  unfold Tryz.a106 Tryz.a106x28 Tryz.a106x27 Tryz.a106x26 Tryz.a106x25 Tryz.a106x24 Tryz.a106x23 Tryz.a106x22 Tryz.a106x21 Tryz.a106x20 Tryz.a106x19 Tryz.a106x18 Tryz.a106x17 Tryz.a106x16 Tryz.a106x15 Tryz.a106x14 Tryz.a106x13 Tryz.a106x12 Tryz.a106x11 Tryz.a106x10 Tryz.a106x9 Tryz.a106x8 Tryz.a106x7 Tryz.a106x6 Tryz.a106x5 Tryz.a106x4 Tryz.a106x3 Tryz.a106x2 Tryz.a106x1 Tryz.a106x0
  refine wp_swap (i := a) (j := pv) H rfl rfl rfl rfl (by omega) (by omega) fun S1 H => ?_
  refine wp_add64 (by omega) (by omega) ?_
  refine wp_sub64 (by omega) (by omega) ?_
  have e1 : (b : Int) - 1 = ((b - 1 : Nat) : Int) := by omega
  rw [e1]
  generalize hx0 : gt L pv = x0
  have P0 : Pt a b (a + 1) (b - 1) x0 L (swp L a pv) := ⟨(Rg.refl a b L).swp hl (by omega) (by omega) (by omega) (by omega), hl, by rw [gt_swp1 (by omega) (by omega)]; exact hx0, by omega, by omega, by omega, by omega, fun p p1 p2 => by omega, fun p p1 p2 => by omega⟩
  refine wp_bind (wp_loop (wpL_inv (fun m vs S1 => ∃ i : Nat, vs = [I (i : Int)] ∧ m = b - i ∧ Pt a b i (b - 1) x0 L (swp L a pv) ∧ Cx B0 W S1 (.sl v 4 (lvs (swp L a pv)) :: own) ro) ?_ (b - (a + 1)) ⟨a + 1, rfl, rfl, P0, H⟩))
  clear H P0
  generalize swp L a pv = M
  rintro m vs S1 ⟨i, rfl, rfl, P, H⟩
  have hml := P.rg.len
  have q1 := P.ia
  refine wp_leq (fun hle => ?_) (fun hgt => ?_)
  · try(refine zz ?_;(repeat constructor);intro _)
    refine wp_gg (i := i) H rfl (by omega) ?_
    try(refine zz ?_;(repeat constructor);intro _)
    refine wp_gg (i := a) H rfl (by omega) ?_
    try(refine zz ?_;(repeat constructor);intro _)
    refine wp_callV H (orderL_ok (a := gt M i) (b := gt M a)) fun S2 H => ?_
    try(refine zz ?_;(repeat constructor);intro _)
    refine wp_lss (fun h => ?_) (fun h => ?_)
    · have h := lvo_lt.1 h
      rw [P.pv] at h
      try(refine zz ?_;(repeat constructor);intro _)
      refine wp_bind ?_
      refine wp_add64 (by omega) (by omega) (wp_ret ?_)
      show wp EM _ _ _
      exact wp_ret (.inl ⟨rfl, b - (i + 1), by omega, i + 1, rfl, rfl, P.up (by omega) h, H⟩)
    · have h : ¬ (gt M i).lt (gt M a) := fun q => by have := lvo_lt.2 q; omega
      rw [P.pv] at h
      try(refine zz ?_;(repeat constructor);intro _)
      refine wp_ret (.inr ⟨by simp, ?_⟩)
      show wp EM _ _ _
      exact part2_ok hb P (fun _ => h) H fun S' mid fl M2 hp H => ⟨rfl, mid, fl, M2, rfl, hp, H⟩
  · try(refine zz ?_;(repeat constructor);intro _)
    refine wp_ret (.inr ⟨by simp, ?_⟩)
    show wp EM _ _ _
    exact part2_ok hb P (fun _ => by omega) H fun S' mid fl M2 hp H => ⟨rfl, mid, fl, M2, rfl, hp, H⟩
end
end Go.Abs
namespace Go.Abs
open Go.Proofs
set_option maxRecDepth 100000
set_option linter.unusedVariables false
theorem Sg.ext {a i : Nat} {M : List Lv} (h : Sg a i M) (hi : a < i) (k : ¬ (gt M i).lt (gt M (i - 1))) : Sg a (i + 1) M := fun p q h1 h2 h3 => by
  by_cases e : q = i
  · subst e
    by_cases e2 : p = q - 1
    · subst e2; exact k
    · exact Lv.le_le (h p (q - 1) h1 (by omega) (by omega)) k
  · exact h p q h1 h2 (by omega)
theorem Sg.out {a i p q : Nat} {M : List Lv} (h : Sg a i M) (hp : i ≤ p) (hq : i ≤ q) (h1 : p < M.length) (h2 : q < M.length) : Sg a i (swp M p q) := fun x y k1 k2 k3 => by
  rw [gt_swp0 h1 h2 (by omega) (by omega), gt_swp0 h1 h2 (by omega) (by omega)]; exact h x y k1 k2 k3
def Sj (a i j : Nat) (M : List Lv) : Prop := ∀ p q, a ≤ p → p < q → q < i → q ≠ j → ¬ (gt M q).lt (gt M p)
theorem Sj.down {a i j : Nat} {M : List Lv} (h : Sj a i j M) (hj : a < j) (hi : j < i) (hl : i ≤ M.length) (k : (gt M j).lt (gt M (j - 1))) : Sj a i (j - 1) (swp M j (j - 1)) := fun p q h1 h2 h3 h4 => by
  have g1 : gt (swp M j (j - 1)) j = gt M (j - 1) := gt_swp1 (by omega) (by omega)
  have g2 : gt (swp M j (j - 1)) (j - 1) = gt M j := gt_swp2 (by omega) (by omega)
  have g0 : ∀ p, p ≠ j → p ≠ j - 1 → gt (swp M j (j - 1)) p = gt M p := fun p p1 p2 => gt_swp0 (by omega) (by omega) p1 p2
  by_cases hq : q = j
  · subst hq
    rw [g1]
    by_cases hp : p = q - 1
    · subst hp; rw [g2]; exact Lv.lt_asymm k
    · rw [g0 p (by omega) hp]; exact h p (q - 1) h1 (by omega) (by omega) (by omega)
  · rw [g0 q hq h4]
    by_cases hp : p = j
    · subst hp; rw [g1]; exact h (p - 1) q (by omega) (by omega) h3 hq
    · by_cases hp2 : p = j - 1
      · subst hp2; rw [g2]; exact h j q (by omega) (by omega) h3 hq
      · rw [g0 p hp hp2]; exact h p q h1 h2 h3 hq
theorem Sj.done {a i j : Nat} {M : List Lv} (h : Sj a i j M) (k : a < j → ¬ (gt M j).lt (gt M (j - 1))) : Sg a i M := fun p q h1 h2 h3 => by
  by_cases hq : q = j
  · subst hq
    have k := k (by omega)
    by_cases hp : p = q - 1
    · subst hp; exact k
    · exact Lv.le_le (h p (q - 1) h1 (by omega) (by omega) (by omega)) k
  · exact h p q h1 h2 h3 hq
section
variable {B0 S : AH} {W : List Nat} {own : List Own} {ro : List Fct} {Q : Post} {k : AV → AC} {v : AV} {L : List Lv}
theorem shiftL_ok {a b i : Nat} {M : List Lv} {Q2 : Post} (hai : a < i) (hib : i < b) (hl : b ≤ L.length) (hb : L.length < 1000000) (hp : Pre a b L) (hg : Rg a b L M) (hs : Sj a i (i - 1) M) (H : Cx B0 W S (.sl v 4 (lvs M) :: own) ro)
    (hq : ∀ S' (w : AV) (M : List Lv), Rg a b L M → Sg a i M → Cx B0 W S' (.sl v 4 (lvs M) :: own) ro → Q2 (.exit 4) [w] S') :
    wp EM (Tryz.a104x8 [v, I (a : Int), I (b : Int), ordF] (I ((i : Int) - 1))) S Q2 := by
  unfold Tryz.a104x8 Tryz.a104x7 Tryz.a104x6 Tryz.a104x5 Tryz.a104x4
  have ei : (i : Int) - 1 = ((i - 1 : Nat) : Int) := by omega
  refine wp_loop (wpL_inv (fun m vs S1 => ∃ (j : Nat) (M : List Lv), vs = [I (j : Int)] ∧ m = j ∧ a ≤ j ∧ j < i ∧ Rg a b L M ∧ Sj a i j M ∧ Cx B0 W S1 (.sl v 4 (lvs M) :: own) ro) ?_ (i - 1) ⟨i - 1, M, by rw [ei], rfl, by omega, by omega, hg, hs, H⟩)
  clear H hg hs M
  rintro m vs S1 ⟨j, M, rfl, rfl, haj, hji, hg, hs, H⟩
  have hml := hg.len
  refine wp_geq (fun h1 => ?_) (fun h1 => ?_)
  · try(refine zz ?_;(repeat constructor);intro _)
    refine wp_bind ?_
    refine wp_gl (i := m) H rfl (by omega) ?_
    refine wp_sub64 (by omega) (by omega) ?_
    refine wp_gl (i := m - 1) H (by omega) (by omega) ?_
    refine wp_callV H (orderL_ok (a := gt M m) (b := gt M (m - 1))) fun S2 H => ?_
    refine wp_lss (fun h => ?_) (fun h => ?_)
    · have h := lvo_lt.1 h
      have hne : a < m := by
        rcases Nat.lt_or_ge a m with q | q
        · exact q
        · exfalso
          have e : m = a := by omega
          subst e
          exact Lv.lt_asymm h (hp.rg hg (by omega) m (Nat.le_refl _) (by omega))
      refine wp_notT ?_
      try(refine zz ?_;(repeat constructor);intro _)
      refine wp_sub64 (by omega) (by omega) ?_
      refine wp_sub64 (by omega) (by omega) ?_
      refine wp_swap (i := m) (j := m - 1) H (by omega) rfl rfl (by omega) (by omega) (by omega) fun S3 H => ?_
      refine wp_ret ?_
      show wp EM _ _ _
      have e2 : (m : Int) - 1 = ((m - 1 : Nat) : Int) := by omega
      refine wp_sub64 (by omega) (by omega) (wp_ret (.inl ⟨rfl, m - 1, by omega, m - 1, _, by rw [← e2], rfl, by omega, by omega, hg.swp hl (by omega) (by omega) (by omega) (by omega), hs.down hne hji (by omega) h, H⟩))
    · have h : ¬ (gt M m).lt (gt M (m - 1)) := fun q => by have := lvo_lt.2 q; omega
      refine wp_notF ?_
      try(refine zz ?_;(repeat constructor);intro _)
      refine wp_ret ?_
      exact .inr ⟨by simp, hq S2 _ M hg (hs.done fun _ => h) H⟩
  · try(refine zz ?_;(repeat constructor);intro _)
    refine wp_ret (.inr ⟨by simp, ?_⟩)
    exact hq S1 _ M hg (hs.done fun h => absurd h (by omega)) H
theorem shiftR_ok {a b i : Nat} {M : List Lv} {Q2 : Post} (hai : a < i) (hib : i < b) (hl : b ≤ L.length) (hb : L.length < 1000000) (hg : Rg a b L M) (hs : Sg a i M) (H : Cx B0 W S (.sl v 4 (lvs M) :: own) ro)
    (hq : ∀ S' (w : AV) (M : List Lv), Rg a b L M → Sg a i M → Cx B0 W S' (.sl v 4 (lvs M) :: own) ro → Q2 .normal [w] S') {v2 : List AV} :
    wp EM (Tryz.a104x16 [v, I (a : Int), I (b : Int), ordF] [I (i : Int)]) S Q2 := by
  unfold Tryz.a104x16 Tryz.a104x15 Tryz.a104x14 Tryz.a104x13 Tryz.a104x12 Tryz.a104x11 Tryz.a104x10
  refine wp_add64 (by omega) (by omega) ?_
  refine wp_bind (wp_loop (wpL_inv (fun m vs S1 => ∃ (j : Nat) (M : List Lv), vs = [I (j : Int)] ∧ m = b - j ∧ i < j ∧ Rg a b L M ∧ Sg a i M ∧ Cx B0 W S1 (.sl v 4 (lvs M) :: own) ro) ?_ (b - (i + 1)) ⟨i + 1, M, rfl, rfl, by omega, hg, hs, H⟩))
  clear H hg hs M
  rintro m vs S1 ⟨j, M, rfl, rfl, hij, hg, hs, H⟩
  have hml := hg.len
  refine wp_lss (fun h1 => ?_) (fun h1 => ?_)
  · try(refine zz ?_;(repeat constructor);intro _)
    refine wp_bind ?_
    refine wp_gl (i := j) H rfl (by omega) ?_
    refine wp_sub64 (by omega) (by omega) ?_
    refine wp_gl (i := j - 1) H (by omega) (by omega) ?_
    refine wp_callV H (orderL_ok (a := gt M j) (b := gt M (j - 1))) fun S2 H => ?_
    refine wp_lss (fun h => ?_) (fun h => ?_)
    · refine wp_notT ?_
      try(refine zz ?_;(repeat constructor);intro _)
      refine wp_sub64 (by omega) (by omega) ?_
      refine wp_sub64 (by omega) (by omega) ?_
      refine wp_swap (i := j) (j := j - 1) H (by omega) rfl rfl (by omega) (by omega) (by omega) fun S3 H => ?_
      refine wp_ret ?_
      show wp EM _ _ _
      refine wp_add64 (by omega) (by omega) (wp_ret (.inl ⟨rfl, b - (j + 1), by omega, j + 1, _, rfl, rfl, by omega, hg.swp hl (by omega) (by omega) (by omega) (by omega), hs.out (by omega) (by omega) (by omega) (by omega), H⟩))
    · refine wp_notF ?_
      try(refine zz ?_;(repeat constructor);intro _)
      refine wp_ret (.inr ⟨by simp, ?_⟩)
      show wp EM _ _ _
      exact wp_ret (hq S2 _ M hg hs H)
  · try(refine zz ?_;(repeat constructor);intro _)
    refine wp_ret (.inr ⟨by simp, ?_⟩)
    show wp EM _ _ _
    exact wp_ret (hq S1 _ M hg hs H)
theorem partial_ok {a b : Nat} (hab : a < b) (hl : b ≤ L.length) (hb : L.length < 1000000) (hp : Pre a b L) (H : Cx B0 W S (.sl v 4 (lvs L) :: own) ro) :
    wpC EM (.fn (.func 104) [] []) [v, I (a : Int), I (b : Int), ordF] S fun r S' => ∃ (fl : Bool) (M : List Lv), r = B fl ∧ Rg a b L M ∧ (fl = true → Sg a b M) ∧ Cx B0 W S' (.sl v 4 (lvs M) :: own) ro := by
  refine wpC_fn (b := Tryz.a104) rfl rfl ?_
  unfold Tryz.a104 Tryz.a104x23 Tryz.a104x22 Tryz.a104x21 Tryz.a104x20 Tryz.a104x19 Tryz.a104x18 Tryz.a104x17 Tryz.a104x16 Tryz.a104x15 Tryz.a104x14 Tryz.a104x13 Tryz.a104x12 Tryz.a104x11 Tryz.a104x10 Tryz.a104x9 Tryz.a104x8 Tryz.a104x7 Tryz.a104x6 Tryz.a104x5 Tryz.a104x4 Tryz.a104x3 Tryz.a104x2 Tryz.a104x1 Tryz.a104x0
  refine wp_add64 (by omega) (by omega) ?_
  refine wp_bind (wp_loop (wpL_inv (fun m vs S1 => ∃ (n i : Nat) (u w : AV) (M : List Lv), vs = [I (n : Int), u, w, B false, I (i : Int)] ∧ m = 5 - n ∧ n ≤ 5 ∧ a < i ∧ i ≤ b ∧ Rg a b L M ∧ Sg a i M ∧ Cx B0 W S1 (.sl v 4 (lvs M) :: own) ro) ?_ 5 ⟨0, a + 1, .no, .no, L, rfl, rfl, by omega, by omega, by omega, Rg.refl .., fun p q h1 h2 h3 => by omega, H⟩))
  clear H
  rintro m vs S1 ⟨n, i0, u, w, M, rfl, rfl, hn, hai0, hib0, hg, hs0, H⟩
  have hml := hg.len
  refine wp_lss (fun h5 => ?_) (fun h5 => ?_)
  · try(refine zz ?_;(repeat constructor);intro _)
    refine wp_bind ?_
    refine wp_bind (wp_loop (wpL_inv (fun m vs S1 => ∃ (i : Nat), vs = [I (i : Int)] ∧ m = b - i ∧ a < i ∧ i ≤ b ∧ Sg a i M ∧ Cx B0 W S1 (.sl v 4 (lvs M) :: own) ro) ?_ (b - i0) ⟨i0, rfl, rfl, hai0, hib0, hs0, H⟩))
    clear H hs0 hai0 hib0
    rintro m vs S1 ⟨i, rfl, rfl, hai, hib, hs, H⟩
    refine wp_lss (fun hlt => ?_) (fun hge => ?_)
    · try(refine zz ?_;(repeat constructor);intro _)
      refine wp_gg (i := i) H rfl (by omega) ?_
      try(refine zz ?_;(repeat constructor);intro _)
      refine wp_sub64 (by omega) (by omega) ?_
      try(refine zz ?_;(repeat constructor);intro _)
      refine wp_gg (i := i - 1) H (by omega) (by omega) ?_
      try(refine zz ?_;(repeat constructor);intro _)
      refine wp_callV H (orderL_ok (a := gt M i) (b := gt M (i - 1))) fun S2 H => ?_
      try(refine zz ?_;(repeat constructor);intro _)
      refine wp_lss (fun h => ?_) (fun h => ?_)
      · have h := lvo_lt.1 h
        try(refine zz ?_;(repeat constructor);intro _)
        refine wp_notT ?_
        try(refine zz ?_;(repeat constructor);intro _)
        refine wp_ret (.inr ⟨by simp, ?_⟩)
        show wp EM _ _ _
        refine wp_eql_f (by omega) ?_
        try(refine zz ?_;(repeat constructor);intro _)
        refine wp_sub64 (by omega) (by omega) ?_
        refine wp_lss (fun h50 => ?_) (fun h50 => ?_)
        · try(refine zz ?_;(repeat constructor);intro _)
          refine wp_ret ?_
          refine .inr ⟨by simp, ?_⟩
          exact ⟨rfl, false, M, rfl, hg, fun h => (by cases h), H⟩
        · try(refine zz ?_;(repeat constructor);intro _)
          refine wp_sub64 (by omega) (by omega) ?_
          refine wp_sub64 (by omega) (by omega) ?_
          refine wp_swap (i := i) (j := i - 1) H (by omega) rfl rfl (by omega) (by omega) (by omega) fun S3 H => ?_
          have hg1 := hg.swp hl (i := i) (j := i - 1) (by omega) (by omega) (by omega) (by omega)
          refine wp_sub64 (by omega) (by omega) ?_
          have right : ∀ (S4 : AH) (w' : AV) (M : List Lv), Rg a b L M → Sg a i M → Cx B0 W S4 (.sl v 4 (lvs M) :: own) ro → ∀ Q2 : Post, (∀ S' (u w : AV) (M : List Lv), Rg a b L M → Sg a i M → Cx B0 W S' (.sl v 4 (lvs M) :: own) ro → Q2 .normal [u, w, B false, I (i : Int)] S') → wp EM (Tryz.a104x17 [v, I (a : Int), I (b : Int), ordF] [I (n : Int), u, w, B false, I (i0 : Int)] [I (i : Int)] [w']) S4 Q2 := by
            intro S4 w' M hg hs H Q2 hq
            unfold Tryz.a104x17
            refine wp_sub64 (by omega) (by omega) ?_
            refine wp_geq (fun h2 => ?_) (fun h2 => ?_)
            · refine wp_bind (wp_ite_t ?_)
              exact shiftR_ok (v2 := []) hai (by omega) hl hb hg hs H fun S' w M hg hs H => wp_ret (hq S' _ _ M hg hs H)
            · refine wp_bind (wp_ite_f (wp_ret ?_))
              exact wp_ret (hq S4 _ _ M hg hs H)
          refine wp_geq (fun h2 => ?_) (fun h2 => ?_)
          · refine wp_bind ?_
            try(refine zz ?_;(repeat constructor);intro _)
            refine wp_sub64 (by omega) (by omega) ?_
            refine wp_bind ?_
            refine shiftL_ok hai (by omega) hl hb hp hg1 (fun p q h1 h2 h3 h4 => ?_) H fun S4 w' M2 hg2 hs2 H => ?_
            · rw [gt_swp0 (by omega) (by omega) (by omega) (by omega), gt_swp0 (by omega) (by omega) (by omega) (by omega)]; exact hs p q h1 h2 h3
            · show wp EM _ _ _
              refine wp_ret ?_
              show wp EM _ _ _
              refine right S4 _ M2 hg2 hs2 H _ fun S5 u2 w2 M3 hg3 hs3 H => ?_
              show wp EM _ _ _
              exact wp_add64 (by omega) (by omega) (wp_ret (.inl ⟨rfl, 5 - (n + 1), by omega, n + 1, i, u2, w2, M3, rfl, rfl, by omega, hai, hib, hg3, hs3, H⟩))
          · refine wp_bind ?_
            try(refine zz ?_;(repeat constructor);intro _)
            refine wp_ret ?_
            show wp EM _ _ _
            refine right S3 _ _ hg1 (fun p q h1 h2 h3 => by omega) H _ fun S5 u2 w2 M3 hg3 hs3 H => ?_
            show wp EM _ _ _
            exact wp_add64 (by omega) (by omega) (wp_ret (.inl ⟨rfl, 5 - (n + 1), by omega, n + 1, i, u2, w2, M3, rfl, rfl, by omega, hai, hib, hg3, hs3, H⟩))
      · have h : ¬ (gt M i).lt (gt M (i - 1)) := fun q => by have := lvo_lt.2 q; omega
        try(refine zz ?_;(repeat constructor);intro _)
        refine wp_notF ?_
        try(refine zz ?_;(repeat constructor);intro _)
        refine wp_bind ?_
        refine wp_add64 (by omega) (by omega) (wp_ret ?_)
        show wp EM _ _ _
        exact wp_ret (.inl ⟨rfl, b - (i + 1), by omega, i + 1, rfl, rfl, by omega, by omega, hs.ext hai h, H⟩)
    · have : i = b := by omega
      subst this
      try(refine zz ?_;(repeat constructor);intro _)
      refine wp_ret (.inr ⟨by simp, ?_⟩)
      show wp EM _ _ _
      refine wp_eql_t rfl ?_
      try(refine zz ?_;(repeat constructor);intro _)
      refine wp_ret ?_
      refine .inr ⟨by simp, ?_⟩
      exact ⟨rfl, true, M, rfl, hg, fun _ => hs, H⟩
  · try(refine zz ?_;(repeat constructor);intro _)
    refine wp_ret (.inr ⟨by simp, ?_⟩)
    show wp EM _ _ _
    exact wp_ret ⟨rfl, false, M, rfl, hg, fun h => (by cases h), H⟩
end
end Go.Abs
namespace Go.Abs
open Go.Proofs
set_option maxRecDepth 100000
set_option linter.unusedVariables false
open Tsk (Tk tks tchk)
section
variable {B0 S : AH} {W : List Nat} {own R : List Own} {ro : List Fct} {Q : Post} {k : AV → AC} {v : AV} {x : Nat} {L : List Lv}
def len8 : ByteArray := ⟨#[0, 1, 2, 2, 3, 3, 3, 3, 4, 4, 4, 4, 4, 4, 4, 4, 5, 5, 5, 5, 5, 5, 5, 5, 5, 5, 5, 5, 5, 5, 5, 5, 6, 6, 6, 6, 6, 6, 6, 6, 6, 6, 6, 6, 6, 6, 6, 6, 6, 6, 6, 6, 6, 6, 6, 6, 6, 6, 6, 6, 6, 6, 6, 6, 7, 7, 7, 7, 7, 7, 7, 7, 7, 7, 7, 7, 7, 7, 7, 7, 7, 7, 7, 7, 7, 7, 7, 7, 7, 7, 7, 7, 7, 7, 7, 7, 7, 7, 7, 7, 7, 7, 7, 7, 7, 7, 7, 7, 7, 7, 7, 7, 7, 7, 7, 7, 7, 7, 7, 7, 7, 7, 7, 7, 7, 7, 7, 7, 8, 8, 8, 8, 8, 8, 8, 8, 8, 8, 8, 8, 8, 8, 8, 8, 8, 8, 8, 8, 8, 8, 8, 8, 8, 8, 8, 8, 8, 8, 8, 8, 8, 8, 8, 8, 8, 8, 8, 8, 8, 8, 8, 8, 8, 8, 8, 8, 8, 8, 8, 8, 8, 8, 8, 8, 8, 8, 8, 8, 8, 8, 8, 8, 8, 8, 8, 8, 8, 8, 8, 8, 8, 8, 8, 8, 8, 8, 8, 8, 8, 8, 8, 8, 8, 8, 8, 8, 8, 8, 8, 8, 8, 8, 8, 8, 8, 8, 8, 8, 8, 8, 8, 8, 8, 8, 8, 8, 8, 8, 8, 8, 8, 8, 8, 8, 8, 8, 8, 8, 8, 8, 8, 8, 8, 8, 8, 8]⟩
theorem len8_get : ∀ i, i < 256 → ∃ b, len8[i]? = some b ∧ b.toNat ≤ 8 ∧ (0 < i → 2 ^ b.toNat ≤ 2 * i) := by decide +kernel
theorem len8_size : len8.size = 256 := by decide +kernel
theorem len64s_ok {S : AH} {n : Nat} (hn : n < 256) : wpC EM (.fn (.func 108) [] []) [U (n : Int)] S fun r S' => (∃ k : Nat, r = I (k : Int) ∧ k ≤ 8 ∧ (0 < n → 2 ^ k ≤ 2 * n)) ∧ Grows S S' := by
  refine wpC_fn (b := Tryz.a108) rfl rfl ?_
  unfold Tryz.a108 Tryz.a108x4 Tryz.a108x3 Tryz.a108x2 Tryz.a108x1 Tryz.a108x0
  refine wp_geq_f (by omega) ?_
  refine wp_bind (wp_ite_f (wp_ret ?_))
  show wp EM _ _ _
  refine wp_geq_f (by show (n : Int) < 65536; omega) ?_
  refine wp_bind (wp_ite_f (wp_ret ?_))
  show wp EM _ _ _
  refine wp_geq_f (by show (n : Int) < 256; omega) ?_
  refine wp_bind (wp_ite_f (wp_ret ?_))
  show wp EM _ _ _
  obtain ⟨b, h1, h2, h3⟩ := len8_get n hn
  refine wp_conv (c := (n : Int)) (by rw [wrapF_eq, IntKind.wrap_u8]; omega) ?_
  refine wp_sidx (s := len8) (i := n) (by rw [len8_size]; exact hn) h1 ?_
  refine wp_conv (c := (b.toNat : Int)) (by rw [wrap64 (by omega) (by omega)]) ?_
  refine wp_add64 (by show (_ : Int) ≤ 0 + _; omega) (by show 0 + _ ≤ (_ : Int); omega) (wp_ret ⟨rfl, ⟨b.toNat, ?_, h2, h3⟩, Grows.refl _⟩)
  show I (0 + (b.toNat : Int)) = _
  rw [Int.zero_add]
theorem lenB_ok {S : AH} {n : Nat} (hn : n < 256) : wpC EM (.fn (.func 88) [] []) [U (n : Int)] S fun r S' => (∃ k : Nat, r = I (k : Int) ∧ k ≤ 8 ∧ (0 < n → 2 ^ k ≤ 2 * n)) ∧ Grows S S' := by
  refine wpC_fn (b := Tryz.a88) rfl rfl ?_
  unfold Tryz.a88
  try(refine zz ?_;(repeat constructor);intro _)
  refine wp_call (wpC_mono (len64s_ok hn) fun r S1 q => ?_)
  exact wp_ret ⟨rfl, q⟩
theorem bvN {n : Nat} (hn : n < 18446744073709551616) : (BitVec.ofInt IntKind.u64.bits (n : Int)).toNat = n := by
  show (BitVec.ofInt 64 (n : Int)).toNat = n
  rw [BitVec.ofInt_natCast, BitVec.toNat_ofNat]
  exact Nat.mod_eq_of_lt hn
theorem wp_xorU {a b : Nat} (h : ∀ c : Nat, c < 18446744073709551616 → wp EM (k (U (c : Int))) S Q) : wp EM (.op (.bin .xor (U (a : Int)) (U (b : Int))) k) S Q := by
  refine wp_op (v := U (((BitVec.ofInt IntKind.u64.bits (a : Int) ^^^ BitVec.ofInt IntKind.u64.bits (b : Int)).toNat : Nat) : Int)) ?_ (h _ ?_)
  · show pur (bXor (U (a : Int)) (U (b : Int))) S = _
    unfold bXor
    simp only [int2, asInt, vInt, kindEq_refl]
    have hlt : (BitVec.ofInt IntKind.u64.bits (a : Int) ^^^ BitVec.ofInt IntKind.u64.bits (b : Int)).toNat < 18446744073709551616 := BitVec.isLt _
    show pur (some (AV.sc (.int .u64 (wrapF .u64 ((BitVec.ofInt IntKind.u64.bits (a : Int) ^^^ BitVec.ofInt IntKind.u64.bits (b : Int)).toNat : Nat))))) S = _
    rw [wrapU hlt]; rfl
  · exact BitVec.isLt _
theorem wp_shlX {κ : IntKind} {a s : Nat} (h : ∀ c : Nat, c < 18446744073709551616 → wp EM (k (U (c : Int))) S Q) : wp EM (.op (.bin .shl (U (a : Int)) (Z κ (s : Int))) k) S Q := by
  refine wp_op (S1 := S) (v := U (wrapF .u64 ((a : Int) * 2 ^ (min (s : Int).toNat IntKind.u64.bits)))) ?_ ?_
  · show pur (if ltF (s : Int) 0 then none else some (AV.sc (.int .u64 (wrapF .u64 ((a : Int) * 2 ^ (min (s : Int).toNat IntKind.u64.bits)))))) S = _
    rw [ltF_eq, if_neg (by simp)]; rfl
  · rw [wrapF_eq]
    generalize (a : Int) * 2 ^ (min (s : Int).toNat IntKind.u64.bits) = z
    show wp EM (k (U (z % 18446744073709551616))) S Q
    obtain ⟨n, hn⟩ : ∃ n : Nat, z % 18446744073709551616 = (n : Int) := ⟨(z % 18446744073709551616).toNat, by omega⟩
    rw [hn]
    exact h n (by omega)
theorem wp_andX {a b : Nat} (ha : a < 18446744073709551616) (hb : b < 18446744073709551616) (h : ∀ c : Nat, c ≤ b → wp EM (k (U (c : Int))) S Q) : wp EM (.op (.bin .and (U (a : Int)) (U (b : Int))) k) S Q := by
  refine wp_op (v := U ((a &&& b : Nat) : Int)) ?_ (h _ Nat.and_le_right)
  show pur (bAnd (U (a : Int)) (U (b : Int))) S = _
  unfold bAnd
  simp only [int2, asInt, vInt, kindEq_refl]
  have e : (BitVec.ofInt IntKind.u64.bits (a : Int) &&& BitVec.ofInt IntKind.u64.bits (b : Int)).toNat = a &&& b := by
    rw [BitVec.toNat_and, bvN ha, bvN hb]
  have hor : a &&& b < 18446744073709551616 := Nat.lt_of_le_of_lt Nat.and_le_left ha
  show pur (some (AV.sc (.int .u64 (wrapF .u64 ((BitVec.ofInt IntKind.u64.bits (a : Int) &&& BitVec.ofInt IntKind.u64.bits (b : Int)).toNat : Nat))))) S = _
  rw [e, wrapU hor]; rfl
theorem xnext_ok {n : Nat} (hn : n < 18446744073709551616) {V : Own} (H : Cx B0 W S (V :: .obj x (.row [U (n : Int)]) :: own) ro) :
    wpC EM (.fn (.func 115) [] []) [.ptr x 0] S fun r S' => ∃ m : Nat, r = U (m : Int) ∧ m < 18446744073709551616 ∧ Cx B0 W S' (V :: .obj x (.row [U (m : Int)]) :: own) ro := by
  refine wpC_fn (b := Tryz.a115) rfl rfl ?_
  unfold Tryz.a115 Tryz.a115x3 Tryz.a115x2 Tryz.a115x1 Tryz.a115x0
  try(refine zz ?_;(repeat constructor);intro _)
  refine wp_loado H 1 rfl rfl ?_
  try(refine zz ?_;(repeat constructor);intro _)
  refine wp_loado H 1 rfl rfl ?_
  refine wp_shlX (s := 13) fun c1 h1 => ?_
  refine wp_xorU fun c2 h2 => ?_
  try(refine zz ?_;(repeat constructor);intro _)
  refine wp_store H 1 rfl rfl rfl (Nat.le_refl _) fun S1 H => ?_
  have H : Cx B0 W S1 (V :: .obj x (.row [U (c2 : Int)]) :: own) ro := H
  try(refine zz ?_;(repeat constructor);intro _)
  refine wp_loado H 1 rfl rfl ?_
  try(refine zz ?_;(repeat constructor);intro _)
  refine wp_loado H 1 rfl rfl ?_
  refine wp_shrU (n := c2) (s := 7) (by omega) (by omega) ?_
  refine wp_xorU fun c3 h3 => ?_
  try(refine zz ?_;(repeat constructor);intro _)
  refine wp_store H 1 rfl rfl rfl (Nat.le_refl _) fun S2 H => ?_
  have H : Cx B0 W S2 (V :: .obj x (.row [U (c3 : Int)]) :: own) ro := H
  try(refine zz ?_;(repeat constructor);intro _)
  refine wp_loado H 1 rfl rfl ?_
  try(refine zz ?_;(repeat constructor);intro _)
  refine wp_loado H 1 rfl rfl ?_
  refine wp_shlX (s := 17) fun c4 h4 => ?_
  refine wp_xorU fun c5 h5 => ?_
  try(refine zz ?_;(repeat constructor);intro _)
  refine wp_store H 1 rfl rfl rfl (Nat.le_refl _) fun S3 H => ?_
  have H : Cx B0 W S3 (V :: .obj x (.row [U (c5 : Int)]) :: own) ro := H
  try(refine zz ?_;(repeat constructor);intro _)
  refine wp_loado H 1 rfl rfl ?_
  exact wp_ret ⟨rfl, c5, rfl, h5, H⟩
theorem npot_ok {S : AH} {n : Nat} (h0 : 0 < n) (hn : n < 256) : wpC EM (.fn (.func 114) [] []) [I (n : Int)] S fun r S' => (∃ m : Nat, r = U (m : Int) ∧ 1 ≤ m ∧ m ≤ 2 * n) ∧ Grows S S' := by
  refine wpC_fn (b := Tryz.a114) rfl rfl ?_
  have H : Cx S [] S [] [] := Cx.enter (by simp)
  unfold Tryz.a114
  refine wp_convU (n := n) (by omega) ?_
  refine wp_callG H (lenB_ok hn) fun r S1 ⟨l, hl1, hl2, hl3⟩ H => ?_
  subst hl1
  have h2 : 2 ^ l ≤ 2 * n := hl3 h0
  have hp : 1 ≤ 2 ^ l := Nat.one_le_two_pow
  refine wp_shlU (n := 1) (s := l) (by omega) (by omega) (wp_ret ⟨rfl, ⟨1 * 2 ^ l, rfl, by omega, by omega⟩, H.grows⟩)
theorem breakPatterns_ok {a b : Nat} (hab : a < b) (hN : b - a < 256) (hl : b ≤ L.length) (hb : L.length < 1000000) (H : Cx B0 W S (.sl v 4 (lvs L) :: own) ro) :
    wpC EM (.fn (.func 101) [] []) [v, I (a : Int), I (b : Int), ordF] S fun _ S' => ∃ M, Rg a b L M ∧ Cx B0 W S' (.sl v 4 (lvs M) :: own) ro := by
  refine wpC_fn (b := Tryz.a101) rfl rfl ?_
  unfold Tryz.a101 Tryz.a101x7 Tryz.a101x6 Tryz.a101x5 Tryz.a101x4 Tryz.a101x3 Tryz.a101x2 Tryz.a101x1 Tryz.a101x0
  refine wp_sub64 (by omega) (by omega) ?_
  have e : (b : Int) - (a : Int) = ((b - a : Nat) : Int) := by omega
  rw [e]
  generalize hNN : b - a = N at *
  refine wp_geq (fun h8 => ?_) (fun h8 => ?_)
  · refine wp_bind (wp_ite_t ?_)
    refine wp_convU (n := N) (by omega) ?_
    refine wp_alloc H fun x S1 H => ?_
    refine wp_store H 0 rfl rfl rfl (Nat.le_refl _) fun S2 H => ?_
    have H : Cx B0 W S2 (.obj x (.row [U (N : Int)]) :: .sl v 4 (lvs L) :: own) ro := H
    refine wp_callG H (npot_ok (n := N) (by omega) (by omega)) fun r S3 ⟨md, hm1, hm2, hm3⟩ H => ?_
    subst hm1
    have H := H.perm (List.Perm.swap (.sl v 4 (lvs L)) (.obj x (.row [U (N : Int)])) own)
    refine wp_quoN (a := N) (b := 4) (by omega) (by omega) ?_
    generalize hq : N / 4 = q
    refine wp_mulN (a := q) (b := 2) (by omega) ?_
    refine wp_add64 (by omega) (by omega) ?_
    refine wp_sub64 (by omega) (by omega) ?_
    refine wp_bind (wp_loop (wpL_inv (fun m vs S1 => ∃ (i r : Nat) (u : AV) (M : List Lv), vs = [I (i : Int), u] ∧ m = a + q * 2 + 2 - i ∧ a + q * 2 - 1 ≤ i ∧ r < 18446744073709551616 ∧ Rg a b L M ∧ Cx B0 W S1 (.sl v 4 (lvs M) :: .obj x (.row [U (r : Int)]) :: own) ro) ?_ (a + q * 2 + 2 - (a + q * 2 - 1)) ⟨a + q * 2 - 1, N, .no, L, ?_, by omega, by omega, by omega, Rg.refl .., H⟩))
    rotate_left
    · show [I _, .no] = [I _, .no]
      congr 2; omega
    clear H
    rintro m vs S1 ⟨i, r, u, M, rfl, rfl, hi, hr, hg, H⟩
    have hml := hg.len
    refine wp_quoN (a := N) (b := 4) (by omega) (by omega) ?_
    rw [hq]
    refine wp_mulN (a := q) (b := 2) (by omega) ?_
    refine wp_add64 (by omega) (by omega) ?_
    refine wp_add64 (by omega) (by omega) ?_
    refine wp_leq (fun hle => ?_) (fun hgt => ?_)
    · try(refine zz ?_;(repeat constructor);intro _)
      refine wp_bind ?_
      refine wp_call (wpC_mono (xnext_ok hr H) fun r2 S2 z => ?_)
      obtain ⟨r1, rfl, hr1, H⟩ := z
      have e1 : wrapF .u64 ((md : Int) - 1) = ((md - 1 : Nat) : Int) := by
        have : (md : Int) - 1 = ((md - 1 : Nat) : Int) := by omega
        rw [this]; exact wrapU (by omega)
      refine wp_sub e1 ?_
      refine wp_andX hr1 (by omega) fun c hc => ?_
      refine wp_conv (c := (c : Int)) (wrap64 (by omega) (by omega)) ?_
      have key : ∀ (o : Nat) (S3 : AH), o < N → Cx B0 W S3 (.sl v 4 (lvs M) :: .obj x (.row [U (r1 : Int)]) :: own) ro → ∀ Q2 : Post, (∀ S' M', Rg a b L M' → Cx B0 W S' (.sl v 4 (lvs M') :: .obj x (.row [U (r1 : Int)]) :: own) ro → Q2 .normal [I (o : Int)] S') → wp EM (.op (.bin .add (I (a : Int)) (I (o : Int))) fun v23 => Tryz.a101x2 [v, I (a : Int), I (b : Int), ordF] [I (i : Int), u] [I (o : Int)] v23) S3 Q2 := by
        intro o S3 ho H Q2 hq2
        unfold Tryz.a101x2 Tryz.a101x1
        refine wp_add64 (by omega) (by omega) ?_
        refine wp_add64 (by omega) (by omega) ?_
        refine wp_swap (i := i) (j := a + o) H (by omega) rfl rfl (by omega) (by omega) (by omega) fun S4 H => ?_
        exact wp_ret (hq2 S4 _ (hg.swp hl (by omega) (by omega) (by omega) (by omega)) H)
      refine wp_geq (fun hge => ?_) (fun hlt => ?_)
      · refine wp_bind (wp_ite_t ?_)
        refine wp_sub64 (by omega) (by omega) (wp_ret ?_)
        have e2 : (c : Int) - (N : Int) = ((c - N : Nat) : Int) := by omega
        rw [e2]
        refine key (c - N) S2 (by omega) H _ fun S' M' hg' H => ?_
        show wp EM _ _ _
        exact wp_add64 (by omega) (by omega) (wp_ret (.inl ⟨rfl, a + q * 2 + 2 - (i + 1), by omega, i + 1, r1, _, M', rfl, rfl, by omega, hr1, hg', H⟩))
      · refine wp_bind (wp_ite_f ?_)
        refine wp_ret ?_
        refine key c S2 (by omega) H _ fun S' M' hg' H => ?_
        show wp EM _ _ _
        exact wp_add64 (by omega) (by omega) (wp_ret (.inl ⟨rfl, a + q * 2 + 2 - (i + 1), by omega, i + 1, r1, _, M', rfl, rfl, by omega, hr1, hg', H⟩))
    · try(refine zz ?_;(repeat constructor);intro _)
      refine wp_ret (.inr ⟨by simp, ?_⟩)
      show wp EM _ _ _
      refine wp_ret ?_
      show wp EM _ _ _
      exact wp_ret ⟨rfl, M, hg, H.dropAt 1⟩
  · refine wp_bind (wp_ite_f (wp_ret ?_))
    show wp EM _ _ _
    exact wp_ret ⟨rfl, L, Rg.refl .., H⟩
end
end Go.Abs
namespace Go.Abs
open Go.Proofs
set_option maxRecDepth 100000
set_option linter.unusedVariables false
open Tsk (Tk tks tchk)
theorem Og.nest {a b a1 b1 a2 b2 : Nat} {M : List Lv} (h : Og a b a1 b1 M) (k : Og a1 b1 a2 b2 M) : Og a b a2 b2 M := fun i j h1 h2 h3 h4 => by
  by_cases hc : i < a1 ∨ b1 ≤ j
  · exact h i j h1 h2 h3 hc
  · exact k i j (by omega) h2 (by omega) h4
theorem Parted.left {a b mid : Nat} {L M N : List Lv} (p : Parted a b mid L M) (hl : b ≤ M.length) (d : Dst M) (r : Rg a mid M N) (s : Sg a mid N) : Og a b (mid + 1) b N ∧ Pre (mid + 1) b N := by
  obtain ⟨p1, p2, _, p3, p4⟩ := p
  refine ⟨fun i j h1 h2 h3 h4 => ?_, fun _ i h1 h2 => ?_⟩
  · by_cases hi : i < mid
    · obtain ⟨i', q1, q2, e⟩ := r.inn i h1 hi
      by_cases hj : j < mid
      · exact s i j h1 h2 hj
      · rw [e, r.out j (by omega)]
        by_cases hj2 : j = mid
        · subst hj2; exact Lv.lt_asymm (p3 i' q1 q2)
        · exact Lv.lt_asymm (Lv.lt_le (p3 i' q1 q2) (p4 j (by omega) h3))
    · have : i = mid := by omega
      subst this
      rw [r.out i (by omega), r.out j (by omega)]
      exact p4 j h2 h3
  · have e : mid + 1 - 1 = mid := by omega
    rw [e, r.out mid (by omega), r.out i (by omega)]
    exact d.gt (by omega) (by omega) (by omega) (p4 i (by omega) h2)
theorem Parted.right {a b mid : Nat} {L M N : List Lv} (p : Parted a b mid L M) (q : Pre a b M) (r : Rg (mid + 1) b M N) (s : Sg (mid + 1) b N) : Og a b a mid N ∧ Pre a mid N := by
  obtain ⟨p1, p2, _, p3, p4⟩ := p
  refine ⟨fun i j h1 h2 h3 h4 => ?_, fun h0 i h1 h2 => ?_⟩
  · by_cases hj : j = mid
    · subst hj
      rw [r.out i (by omega), r.out j (by omega)]
      exact Lv.lt_asymm (p3 i h1 h2)
    · obtain ⟨j', q1, q2, e⟩ := r.inn j (by omega) h3
      by_cases hi : i < mid
      · rw [e, r.out i (by omega)]
        exact Lv.lt_asymm (Lv.lt_le (p3 i h1 hi) (p4 j' (by omega) q2))
      · by_cases hi2 : i = mid
        · subst hi2
          rw [e, r.out i (by omega)]
          exact p4 j' (by omega) q2
        · exact s i j (by omega) h2 h3
  · rw [r.out (a - 1) (by omega), r.out i (by omega)]
    exact q h0 i h1 (by omega)
section
variable {B0 : AH} {W : List Nat} {own R : List Own} {ro : List Fct} {k : AV → AC} {v : AV} {x : Nat}
theorem insR_ok {S : AH} {L : List Lv} {a b : Nat} (hab : a ≤ b) (hl : b ≤ L.length) (hb : L.length < 1000000) (H : Cx B0 W S (.sl v 4 (lvs L) :: own) ro) :
    wpC EM (.fn (.func 96) [] []) [v, I (a : Int), I (b : Int), ordF] S fun _ S' => ∃ M, Rg a b L M ∧ Sg a b M ∧ Cx B0 W S' (.sl v 4 (lvs M) :: own) ro := by
  have e : L.take a ++ ((L.drop a).take (b - a) ++ L.drop b) = L := by
    have : L.drop b = (L.drop a).drop (b - a) := by rw [List.drop_drop]; congr 1; omega
    rw [this, List.take_append_drop, List.take_append_drop]
  have n1 : (L.take a).length = a := by rw [List.length_take]; omega
  have n2 : ((L.drop a).take (b - a)).length = b - a := by rw [List.length_take, List.length_drop]; omega
  have K := insertion_ok (P := L.take a) (X := (L.drop a).take (b - a)) (R := L.drop b) (v := v) (own := own) (ro := ro) (B0 := B0) (W := W) (S := S) (by rw [e]; exact hb) (by rw [e]; exact H)
  have n3 : a + (b - a) = b := by omega
  rw [n1, n2, n3] at K
  refine wpC_mono K fun r S1 q => ?_
  obtain ⟨m, h1, h2, H⟩ := q
  obtain ⟨g1, g2⟩ := h1.rg (P := L.take a) (R := L.drop b) (by rw [h2, n2])
  rw [n1, n2, n3, e] at g1
  rw [n1, n2, n3] at g2
  exact ⟨_, g1, g2, H⟩
abbrev pdqF : AV := .fn (.func 87) [] []
theorem pdqTail {a b l p : Nat} {S : AH} {M : List Lv} {bal part : Bool} {u w h : AV} {l0 : Int} {Q2 : Post} {A0 B1 L0 : AV} (hab : a + 12 < b) (hl : b ≤ M.length) (hb : M.length < 1000000) (hp1 : a ≤ p) (hp2 : p < b) (hpre : Pre a b M) (hd : Dst M)
    (ih : ∀ {a' b' : Nat} {S : AH} {L : List Lv}, b' - a' < b - a → a' ≤ b' → b' ≤ L.length → L.length < 1000000 → Pre a' b' L → Dst L → Cx B0 W S (.sl v 4 (lvs L) :: own) ro → wpC EM pdqF [v, I (a' : Int), I (b' : Int), I (l : Int), ordF] S fun _ S' => ∃ M, Rg a' b' L M ∧ Sg a' b' M ∧ Cx B0 W S' (.sl v 4 (lvs M) :: own) ro)
    (H : Cx B0 W S (.sl v 4 (lvs M) :: own) ro)
    (hq : ∀ S' (b2 a2 : Nat) (bal2 part2 : Bool) (M2 : List Lv), b2 - a2 < b - a → a ≤ a2 → a2 ≤ b2 → b2 ≤ b → Rg a b M M2 → Og a b a2 b2 M2 → Pre a2 b2 M2 → Cx B0 W S' (.sl v 4 (lvs M2) :: own) ro → Q2 .normal [I (b2 : Int), B bal2, B part2, I (a2 : Int), h, I (p : Int), I (l : Int)] S') :
    wp EM (Tryz.a87x10 [v, A0, B1, L0, ordF] [I (b : Int), B bal, B part, I (a : Int), u, w, I l0] (I ((b : Int) - (a : Int))) [I (l : Int)] [h, I (p : Int)]) S Q2 := by
  unfold Tryz.a87x10 Tryz.a87x9 Tryz.a87x8 Tryz.a87x7 Tryz.a87x6 Tryz.a87x5 Tryz.a87x4
  have cont : ∀ S, Cx B0 W S (.sl v 4 (lvs M) :: own) ro → wp EM (.call (.fn (.func 106) [] []) [v, I (a : Int), I (b : Int), I (p : Int), ordF] fun v33 => Tryz.a87x7 [v, A0, B1, L0, ordF] [I (b : Int), B bal, B part, I (a : Int), u, w, I l0] (I ((b : Int) - (a : Int))) [I (l : Int)] [h, I (p : Int)] v33) S Q2 := by
    intro S H
    unfold Tryz.a87x7 Tryz.a87x6 Tryz.a87x5 Tryz.a87x4
    refine wp_call (wpC_mono (partition_ok (by omega) hp1 hp2 hl hb H) fun r S1 q => ?_)
    obtain ⟨mid, fl, M1, rfl, hP, H⟩ := q
    have hm1 := hP.1
    have hm2 := hP.2.1
    have hR := hP.2.2.1
    have hl1 := hR.len
    have hd1 : Dst M1 := hd.perm hR.perm
    have hpre1 := hpre.rg hR
    try(refine zz ?_;(repeat constructor);intro _)
    refine wp_sub64 (by omega) (by omega) ?_
    refine wp_sub64 (by omega) (by omega) ?_
    have e : (b : Int) - (a : Int) = ((b - a : Nat) : Int) := by omega
    rw [e]
    refine wp_quoN (a := b - a) (b := 8) (by omega) (by omega) ?_
    refine wp_lss (fun h1 => ?_) (fun h1 => ?_)
    · refine wp_bind (wp_ite_t ?_)
      refine wp_geq (fun h2 => ?_) (fun h2 => ?_)
      all_goals
        refine wp_call (wpC_mono (ih (a' := a) (b' := mid) (by omega) hm1 (by omega) (by omega) (fun h0 i i1 i2 => hpre1 h0 i i1 (by omega)) hd1 H) fun r S2 q => ?_)
        obtain ⟨N, g1, g2, H⟩ := q
        obtain ⟨o1, o2⟩ := hP.left (by omega) hd1 g1 g2
        refine wp_add64 (by omega) (by omega) (wp_ret ?_)
        show wp EM _ _ _
        refine wp_ret ?_
        exact hq S2 b (mid + 1) _ fl N (by omega) (by omega) (by omega) (by omega) (hR.trans (g1.mono (by omega) (by omega))) o1 o2 H
    · refine wp_bind (wp_ite_f ?_)
      refine wp_geq (fun h2 => ?_) (fun h2 => ?_)
      all_goals
        refine wp_add64 (by omega) (by omega) ?_
        refine wp_call (wpC_mono (ih (a' := mid + 1) (b' := b) (by omega) (by omega) (by omega) (by omega) (fun h0 i i1 i2 => by
          have e9 : mid + 1 - 1 = mid := by omega
          rw [e9]
          exact hd1.gt (by omega) (by omega) (by omega) (hP.2.2.2.2 i (by omega) i2)) hd1 H) fun r S2 q => ?_)
        obtain ⟨N, g1, g2, H⟩ := q
        obtain ⟨o1, o2⟩ := hP.right hpre1 g1 g2
        refine wp_ret ?_
        show wp EM _ _ _
        refine wp_ret ?_
        exact hq S2 mid a _ fl N (by omega) (by omega) (by omega) (by omega) (hR.trans (g1.mono (by omega) (by omega))) o1 o2 H
  refine wp_gtr (fun h0 => ?_) (fun h0 => ?_)
  · try(refine zz ?_;(repeat constructor);intro _)
    refine wp_sub64 (by omega) (by omega) ?_
    try(refine zz ?_;(repeat constructor);intro _)
    refine wp_gg (i := a - 1) H (by omega) (by omega) ?_
    try(refine zz ?_;(repeat constructor);intro _)
    refine wp_gg (i := p) H rfl (by omega) ?_
    try(refine zz ?_;(repeat constructor);intro _)
    refine wp_callV H (orderL_ok (a := gt M (a - 1)) (b := gt M p)) fun S2 H => ?_
    try(refine zz ?_;(repeat constructor);intro _)
    refine wp_lss_t (lvo_lt.2 (hpre (by omega) p hp1 hp2)) ?_
    try(refine zz ?_;(repeat constructor);intro _)
    refine wp_notT ?_
    try(refine zz ?_;(repeat constructor);intro _)
    exact cont S2 H
  · try(refine zz ?_;(repeat constructor);intro _)
    exact cont S H
theorem pdqA : ∀ (N : Nat) {a b l : Nat} {S : AH} {L : List Lv}, b - a = N → N < 256 → l < 1000 → a ≤ b → b ≤ L.length → L.length < 1000000 → Pre a b L → Dst L → Cx B0 W S (.sl v 4 (lvs L) :: own) ro → wpC EM pdqF [v, I (a : Int), I (b : Int), I (l : Int), ordF] S fun _ S' => ∃ M, Rg a b L M ∧ Sg a b M ∧ Cx B0 W S' (.sl v 4 (lvs M) :: own) ro := by
  intro N
  induction N using Nat.strongRecOn with
  | _ N ih =>
    intro a b l S L hN hN2 hll hab hl hb hpre hd H
    refine wpC_fn (b := Tryz.a87) rfl rfl ?_
    unfold Tryz.a87 Tryz.a87x14 Tryz.a87x13 Tryz.a87x12 Tryz.a87x11 Tryz.a87x10 Tryz.a87x9 Tryz.a87x8 Tryz.a87x7 Tryz.a87x6 Tryz.a87x5 Tryz.a87x4 Tryz.a87x3 Tryz.a87x2 Tryz.a87x1 Tryz.a87x0
    refine wp_bind (wp_loop (wpL_inv (fun m vs S1 => ∃ (a' b' l' : Nat) (bal part : Bool) (u w : AV) (M : List Lv), vs = [I (b' : Int), B bal, B part, I (a' : Int), u, w, I (l' : Int)] ∧ m = b' - a' ∧ a ≤ a' ∧ a' ≤ b' ∧ b' ≤ b ∧ l' < 1000 ∧ Rg a b L M ∧ Og a b a' b' M ∧ Pre a' b' M ∧ Cx B0 W S1 (.sl v 4 (lvs M) :: own) ro) ?_ (b - a) ⟨a, b, l, true, true, .no, .no, L, rfl, rfl, by omega, by omega, by omega, hll, Rg.refl .., Og.full a b L, hpre, H⟩))
    clear H hpre hll
    rintro m vs S1 ⟨a', b', l', bal, part, u, w, M, rfl, rfl, h1, h2, h3, hl', hg, ho, hp, H⟩
    have hml := hg.len
    have hdM : Dst M := hd.perm hg.perm
    refine wp_bind ?_
    refine wp_sub64 (by omega) (by omega) ?_
    refine wp_leq (fun h12 => ?_) (fun h12 => ?_)
    · try(refine zz ?_;(repeat constructor);intro _)
      refine wp_call (wpC_mono (insR_ok h2 (by omega) (by omega) H) fun r S2 q => ?_)
      obtain ⟨M2, g1, g2, H⟩ := q
      exact wp_ret (.inr ⟨by simp, rfl, M2, hg.trans (g1.mono (by omega) (by omega)), (ho.rg g1 h1 h3).all g2, H⟩)
    try(refine zz ?_;(repeat constructor);intro _)
    refine wp_eql (fun h0 => ?_) (fun h0 => ?_)
    · try(refine zz ?_;(repeat constructor);intro _)
      refine wp_call (wpC_mono (heapSort_ok (a := a') (b := b') (by omega) (by omega) (by omega) H) fun r S2 q => ?_)
      obtain ⟨M2, g1, g2, H⟩ := q
      exact wp_ret (.inr ⟨by simp, rfl, M2, hg.trans (g1.mono (by omega) (by omega)), (ho.rg g1 h1 h3).all g2, H⟩)
    try(refine zz ?_;(repeat constructor);intro _)
    refine wp_not ?_
    have step : ∀ (l2 : Nat) (S2 : AH) (M : List Lv), l2 < 1000 → Rg a b L M → Og a b a' b' M → Pre a' b' M → Cx B0 W S2 (.sl v 4 (lvs M) :: own) ro → ∀ Q2 : Post, (∀ vs S', (∃ M2, Rg a b L M2 ∧ Sg a b M2 ∧ Cx B0 W S' (.sl v 4 (lvs M2) :: own) ro) → Q2 .ret vs S') → (∀ S' (b2 a2 l2 : Nat) (bal2 part2 : Bool) (u w : AV) (M2 : List Lv), b2 - a2 < b' - a' → a ≤ a2 → a2 ≤ b2 → b2 ≤ b → l2 < 1000 → Rg a b L M2 → Og a b a2 b2 M2 → Pre a2 b2 M2 → Cx B0 W S' (.sl v 4 (lvs M2) :: own) ro → Q2 .normal [I (b2 : Int), B bal2, B part2, I (a2 : Int), u, w, I (l2 : Int)] S') →
        wp EM (Tryz.a87x12 [v, I (a : Int), I (b : Int), I (l : Int), ordF] [I (b' : Int), B bal, B part, I (a' : Int), u, w, I (l' : Int)] (I ((b' : Int) - (a' : Int))) [I (l2 : Int)]) S2 Q2 := by
      clear H hml hdM hp ho hg M
      intro l2 S2 M hl2 hg ho hp H Q2 k1 k2
      have hml := hg.len
      unfold Tryz.a87x12 Tryz.a87x2
      refine wp_call (wpC_mono (choosePivot_ok (a := a') (b := b') (by omega) (by omega) (by omega) H) fun r S3 q => ?_)
      obtain ⟨p, h, rfl, hp1, hp2, H⟩ := q
      try(refine zz ?_;(repeat constructor);intro _)
      have piv : ∀ (p : Nat) (h : Int) (S3 : AH) (M : List Lv), a' ≤ p → p < b' → Rg a b L M → Og a b a' b' M → Pre a' b' M → Cx B0 W S3 (.sl v 4 (lvs M) :: own) ro → wp EM (Tryz.a87x11 [v, I (a : Int), I (b : Int), I (l : Int), ordF] [I (b' : Int), B bal, B part, I (a' : Int), u, w, I (l' : Int)] (I ((b' : Int) - (a' : Int))) [I (l2 : Int)] [I h, I (p : Int)]) S3 Q2 := by
        intro p h S3 M hp1 hp2 hg ho hp H
        have hml := hg.len
        have tail : ∀ (S3 : AH) (M : List Lv), Rg a b L M → Og a b a' b' M → Pre a' b' M → Cx B0 W S3 (.sl v 4 (lvs M) :: own) ro → wp EM (Tryz.a87x10 [v, I (a : Int), I (b : Int), I (l : Int), ordF] [I (b' : Int), B bal, B part, I (a' : Int), u, w, I (l' : Int)] (I ((b' : Int) - (a' : Int))) [I (l2 : Int)] [I h, I (p : Int)]) S3 Q2 := by
          intro S3 M hg ho hp H
          have hml := hg.len
          refine pdqTail (by omega) (by omega) (by omega) hp1 hp2 hp (hd.perm hg.perm) (fun {a2 b2 S L} q1 q2 q3 q4 q5 q6 q7 => ih (b2 - a2) (by omega) rfl (by omega) hl2 q2 q3 q4 q5 q6 q7) H fun S' b2 a2 bal2 part2 M2 q1 q2 q3 q4 q5 q6 q7 H => ?_
          exact k2 S' b2 a2 l2 bal2 part2 _ _ M2 q1 (by omega) q3 (by omega) hl2 (hg.trans (q5.mono h1 h3)) ((ho.rg q5 h1 h3).nest q6) q7 H
        unfold Tryz.a87x11 Tryz.a87x3
        have skip : wp EM (.bind (.ite (B false) (.call (.fn (.func 104) [] []) [v, I (a' : Int), I (b' : Int), ordF] fun v17 => .ite v17 (.ret .ret []) (.ret .normal [])) (.ret .normal [])) none (fun v17 => Tryz.a87x10 [v, I (a : Int), I (b : Int), I (l : Int), ordF] [I (b' : Int), B bal, B part, I (a' : Int), u, w, I (l' : Int)] (I ((b' : Int) - (a' : Int))) [I (l2 : Int)] [I h, I (p : Int)]) (fun v17 => [I (b' : Int), B bal, B part, I (a' : Int), I h, I (p : Int), I (l2 : Int)])) S3 Q2 := by
          refine wp_bind (wp_ite_f (wp_ret ?_))
          exact tail S3 M hg ho hp H
        cases bal with
        | false => try(refine zz ?_;(repeat constructor);intro _); exact skip
        | true =>
          cases part with
          | false => try(refine zz ?_;(repeat constructor);intro _); exact skip
          | true =>
            try(refine zz ?_;(repeat constructor);intro _)
            refine wp_eql (fun e1 => ?_) (fun e1 => ?_)
            · try(refine zz ?_;(repeat constructor);intro _)
              refine wp_bind (wp_ite_t ?_)
              refine wp_call (wpC_mono (partial_ok (a := a') (b := b') (by omega) (by omega) (by omega) hp H) fun r S4 q => ?_)
              obtain ⟨fl, M2, rfl, g1, g2, H⟩ := q
              cases fl with
              | true =>
                try(refine zz ?_;(repeat constructor);intro _)
                refine wp_ret ?_
                exact k1 _ S4 ⟨M2, hg.trans (g1.mono h1 h3), (ho.rg g1 h1 h3).all (g2 rfl), H⟩
              | false =>
                try(refine zz ?_;(repeat constructor);intro _)
                refine wp_ret ?_
                exact tail S4 M2 (hg.trans (g1.mono h1 h3)) (ho.rg g1 h1 h3) (hp.rg g1) H
            · try(refine zz ?_;(repeat constructor);intro _)
              exact skip
      refine wp_eql (fun he => ?_) (fun he => ?_)
      · refine wp_bind (wp_ite_t ?_)
        refine wp_call (wpC_mono (reverse_ok (a := a') (b := b') (by omega) (by omega) (by omega) H) fun r S4 q => ?_)
        obtain ⟨M2, g1, H⟩ := q
        refine wp_sub64 (by omega) (by omega) ?_
        refine wp_sub64 (by omega) (by omega) ?_
        refine wp_sub64 (by omega) (by omega) (wp_ret ?_)
        have e9 : (b' : Int) - 1 - ((p : Int) - (a' : Int)) = ((b' - 1 - (p - a') : Nat) : Int) := by omega
        rw [e9]
        exact piv (b' - 1 - (p - a')) 1 S4 M2 (by omega) (by omega) (hg.trans (g1.mono h1 h3)) (ho.rg g1 h1 h3) (hp.rg g1) H
      · refine wp_bind (wp_ite_f (wp_ret ?_))
        exact piv p h S3 M hp1 hp2 hg ho hp H
    cases bal with
    | true =>
      refine wp_bind (wp_ite_f (wp_ret ?_))
      refine step l' S1 M hl' hg ho hp H _ (fun vs S' q => ?_) (fun S' b2 a2 l2 bal2 part2 u2 w2 M2 q1 q2 q3 q4 q5 q6 q7 q8 H => ?_)
      · exact .inr ⟨by simp, rfl, q⟩
      · exact wp_ret (.inl ⟨rfl, b2 - a2, q1, a2, b2, l2, bal2, part2, u2, w2, M2, rfl, rfl, q2, q3, q4, q5, q6, q7, q8, H⟩)
    | false =>
      refine wp_bind (wp_ite_t ?_)
      refine wp_call (wpC_mono (breakPatterns_ok (a := a') (b := b') (by omega) (by omega) (by omega) (by omega) H) fun r S2 q => ?_)
      obtain ⟨M2, g1, H⟩ := q
      refine wp_sub64 (by omega) (by omega) (wp_ret ?_)
      have e9 : (l' : Int) - 1 = ((l' - 1 : Nat) : Int) := by omega
      rw [e9]
      refine step (l' - 1) S2 M2 (by omega) (hg.trans (g1.mono h1 h3)) (ho.rg g1 h1 h3) (hp.rg g1) H _ (fun vs S' q => ?_) (fun S' b2 a2 l2 bal2 part2 u2 w2 M2 q1 q2 q3 q4 q5 q6 q7 q8 H => ?_)
      · exact .inr ⟨by simp, rfl, q⟩
      · exact wp_ret (.inl ⟨rfl, b2 - a2, q1, a2, b2, l2, bal2, part2, u2, w2, M2, rfl, rfl, q2, q3, q4, q5, q6, q7, q8, H⟩)
theorem sortL_ok {S : AH} {X : List Lv} (hl : X.length ≤ 64) (hd : Dst X) (H : Cx B0 W S (.sl v 4 (lvs X) :: own) ro) : wpC EM (.fn (.func 70) [] []) [v, ordF] S fun _ S' => ∃ m, StS X m ∧ m.length = X.length ∧ Cx B0 W S' (.sl v 4 (lvs m) :: own) ro := by
  refine wpC_fn (b := Tryz.a70) rfl rfl ?_
  unfold Tryz.a70
  refine wp_leno H 0 rfl ?_
  rw [lvs_len]
  refine wp_convU (n := X.length) (by omega) ?_
  refine wp_callG H (lenB_ok (by omega)) fun r S1 ⟨l, hl1, hl2, _⟩ H => ?_
  subst hl1
  refine wp_call (wpC_mono (pdqA X.length (a := 0) (b := X.length) (l := l) rfl (by omega) (by omega) (by omega) (Nat.le_refl _) (by omega) (fun h => by omega) hd H) fun r S2 q => ?_)
  obtain ⟨M, g1, g2, H⟩ := q
  refine wp_ret ⟨rfl, M, hd.sts g1.perm (Srt.of_sg (by rw [g1.len]; exact g2)), g1.len, H⟩
end
end Go.Abs
namespace Go.Abs
open Go.Proofs
set_option maxRecDepth 100000
set_option linter.unusedVariables false
open Tsk (Tk tks tchk)
section
variable {B0 S : AH} {W : List Nat} {own R : List Own} {ro : List Fct} {Q : Post} {k : AV → AC} {v : AV} {x : Nat} {s : Ms} {m : Mv}
theorem Ms.Wf.dst (h : s.Wf) : Dst s.jobs := List.pairwise_iff_getElem.2 fun i j hi hj hij => by
  have h1 := h.jj i _ (List.getElem?_eq_getElem hi)
  have h2 := h.jj j _ (List.getElem?_eq_getElem hj)
  unfold Lv.lt
  omega
/-! ### those that are ready, those that are live -/
def rdy (l : List Lv) : List Lv := l.filter fun x => decide (x.st = 3)
def isLive (x : Lv) : Bool := decide (x.st = 2) || decide (x.st = 3) || decide (x.st = 4)
def liv (l : List Lv) : List Lv := l.filter isLive
theorem filter_succ {p : Lv → Bool} {l : List Lv} {i : Nat} (hi : i < l.length) : (l.take (i + 1)).filter p = if p l[i] then (l.take i).filter p ++ [l[i]] else (l.take i).filter p := by
  rw [List.take_succ_eq_append_getElem hi, List.filter_append]
  by_cases h : p l[i]
  · rw [if_pos h]; simp [h]
  · rw [if_neg h]; simp [h]
theorem wp_pushL {X : List Lv} (H : Cx B0 W S (.sl v 4 (lvs X) :: own) ro) {y : Lv} (hX : X.length < 100000) (h : ∀ v1 S1, Cx B0 W S1 (.sl v1 4 (lvs (X ++ [y])) :: own) ro → wp EM (k v1) S1 Q) :
    wp EM (.op (.bslice 4 1 [I 0, I 0, I 0, U 0] [(0, 4, .agg y.cs)]) fun t => .op (.append 4 32 v t) k) S Q := by
  refine wp_push H 0 rfl rfl rfl rfl (by rw [lvs_len]; unfold maxBytes; omega) (by rw [lvs_len]; unfold maxLenN; omega) fun v1 S1 H1 => h v1 S1 ?_
  have e : lvs (X ++ [y]) = lvs X ++ [y.cs] := by rw [lvs_app]; rfl
  rw [e]; exact H1
theorem ready_ok (wf : s.Wf) (hj : s.jobs.length ≤ 64) (H : Cx B0 W S (mOwn x s m ++ R) ro) : wpC EM (.fn (.func 77) [] []) [.ptr x 0] S fun r S' => ∃ L, StS (rdy s.jobs) L ∧ L.length = (rdy s.jobs).length ∧ Cx B0 W S' (.sl r 4 (lvs L) :: (mOwn x s m ++ R)) ro := by
  refine wpC_fn (b := Tryz.a77) rfl rfl ?_
  unfold Tryz.a77 Tryz.a77x4 Tryz.a77x3 Tryz.a77x2 Tryz.a77x1 Tryz.a77x0
  try(refine zz ?_;(repeat constructor);intro _)
  refine wp_row (j := 9) H 0 rfl rfl ?_
  refine wp_leno H 2 rfl ?_
  rw [lvs_len]
  have H := H.addNilS 4
  refine wp_bind (wp_loop (wpL_for s.jobs.length (fun i vs S1 => ∃ w : AV, vs = [I (i : Int), w] ∧ Cx B0 W S1 (.sl w 4 (lvs (rdy (s.jobs.take i))) :: (mOwn x s m ++ R)) ro) ?_ ?_ ⟨_, rfl, H⟩))
  · clear H
    rintro i vs S1 hlt ⟨w, rfl, H⟩
    refine wp_lss_t (by omega) ?_
    try(refine zz ?_;(repeat constructor);intro _)
    refine wp_bind ?_
    have hx : s.jobs[i]? = some s.jobs[i] := List.getElem?_eq_getElem hlt
    refine wp_ownN (v := m.vj) H 3 rfl hx ?_
    refine wp_tmpN H rfl rfl rfl fun q S2 H => ?_
    have H : Cx B0 W S2 (.sl w 4 (lvs (rdy (s.jobs.take i))) :: (mOwn x s m ++ R)) (.pt q 0 s.jobs[i].cs :: ro) := H
    try(refine zz ?_;(repeat constructor);intro _)
    refine wp_ld H (o := 1) (cs := s.jobs[i].cs) (by repeat (first | exact List.Mem.head _ | apply List.Mem.tail)) rfl ?_
    have hf := filter_succ (p := fun x => decide (x.st = 3)) hlt
    refine wp_eql (fun h3 => ?_) (fun h3 => ?_)
    · rw [if_pos (by simpa using h3)] at hf
      refine wp_bind ?_
      try(refine zz ?_;(repeat constructor);intro _)
      refine wp_ldn H (o := 0) (n := 4) (cs := s.jobs[i].cs) (by repeat (first | exact List.Mem.head _ | apply List.Mem.tail)) rfl ?_
      refine wp_pushL (y := s.jobs[i]) H (by have := List.length_filter_le (fun x : Lv => decide (x.st = 3)) (s.jobs.take i); rw [List.length_take] at this; unfold rdy; omega) fun v1 S3 H => ?_
      refine wp_ret ?_
      show wp EM _ _ _
      refine wp_ret ?_
      show wp EM _ _ _
      refine wp_add64 (by omega) (by omega) (wp_ret (.inl ⟨rfl, v1, rfl, ?_⟩))
      have e : rdy (s.jobs.take (i + 1)) = rdy (s.jobs.take i) ++ [s.jobs[i]] := hf
      rw [e]; exact H.tl
    · rw [if_neg (by simpa using h3)] at hf
      refine wp_bind ?_
      try(refine zz ?_;(repeat constructor);intro _)
      refine wp_ret ?_
      show wp EM _ _ _
      refine wp_ret ?_
      show wp EM _ _ _
      refine wp_add64 (by omega) (by omega) (wp_ret (.inl ⟨rfl, w, rfl, ?_⟩))
      have e : rdy (s.jobs.take (i + 1)) = rdy (s.jobs.take i) := hf
      rw [e]; exact H.tl
  · clear H
    rintro vs S1 ⟨w, rfl, H⟩
    rw [List.take_length] at H
    refine wp_lss_f (by omega) ?_
    try(refine zz ?_;(repeat constructor);intro _)
    refine wp_ret ⟨by simp, ?_⟩
    show wp EM _ _ _
    refine wp_call (wpC_mono (sortL_ok (by have := List.length_filter_le (fun x : Lv => decide (x.st = 3)) s.jobs; (try unfold rdy); omega) (wf.dst.sublist List.filter_sublist) H) fun r S2 q => ?_)
    exact wp_ret ⟨rfl, q⟩
end
end Go.Abs
namespace Go.Abs
open Go.Proofs
set_option maxRecDepth 100000
set_option linter.unusedVariables false
open Tsk (Tk tks tchk)
def uints (l : List Int) : List (List AV) := l.map fun n => [U n]
theorem uints_len (l : List Int) : (uints l).length = l.length := List.length_map ..
theorem uints_get? {l : List Int} {i : Nat} {n : Int} (h : l[i]? = some n) : (uints l)[i]? = some [U n] := by unfold uints; rw [List.getElem?_map, h]; rfl
def IsMax (l : List Int) (c : Nat) : Prop := ∃ z, l[c]? = some z ∧ (∀ (j : Nat) y, l[j]? = some y → y ≤ z) ∧ ∀ (j : Nat) y, j < c → l[j]? = some y → y < z
def IsLeast (z : Lv) (l : List Lv) : Prop := z ∈ l ∧ ∀ y ∈ l, ¬ y.lt z
def Ms.word (s : Ms) (i : Int) : Int := if i = -1 then 18446744073709551615 else match s.jobs[i.toNat]? with
  | some x => x.key
  | none => 0
def Ms.words (s : Ms) : List Int := s.runs.map s.word
def Bal (s s' : Ms) : Prop := (rdy s.jobs = [] ∧ s' = s) ∨ ∃ z c w, IsLeast z (rdy s.jobs) ∧ IsMax s.words c ∧ s.words[c]? = some w ∧ s' = if w ≤ z.key then s else { s with flags := s.flags.set c true }
theorem StS.head {l m : List Lv} {z : Lv} (h : StS l (z :: m)) : IsLeast z l := by
  refine ⟨h.mem.1 (List.mem_cons_self ..), fun y hy hlt => ?_⟩
  rcases List.mem_cons.1 (h.mem.2 hy) with rfl | hy
  · exact Lv.lt_irrefl _ hlt
  · exact (List.pairwise_cons.1 h.1).1 y hy hlt
section
variable {B0 S : AH} {W : List Nat} {own R : List Own} {ro : List Fct} {Q : Post} {k : AV → AC} {v : AV} {x : Nat} {s : Ms} {m : Mv}
set_option maxHeartbeats 1000000 in
theorem lives_ok (wf : s.Wf) (hj : s.jobs.length ≤ 64) (H : Cx B0 W S (mOwn x s m ++ R) ro) : wpC EM (.fn (.func 50) [] []) [m.vj] S fun r S' => ∃ L, StS (liv s.jobs) L ∧ L.length = (liv s.jobs).length ∧ Cx B0 W S' (.sl r 4 (lvs L) :: (mOwn x s m ++ R)) ro := by
  refine wpC_fn (b := Tryz.a50) rfl rfl ?_
  unfold Tryz.a50 Tryz.a50x5 Tryz.a50x4 Tryz.a50x3 Tryz.a50x2 Tryz.a50x1 Tryz.a50x0
  refine wp_leno H 2 rfl ?_
  rw [lvs_len]
  have H := H.addNilS 4
  refine wp_bind (wp_loop (wpL_for s.jobs.length (fun i vs S1 => ∃ w : AV, vs = [I (i : Int), w] ∧ Cx B0 W S1 (.sl w 4 (lvs (liv (s.jobs.take i))) :: (mOwn x s m ++ R)) ro) ?_ ?_ ⟨_, rfl, H⟩))
  · clear H
    rintro i vs S1 hlt ⟨w, rfl, H⟩
    refine wp_lss_t (by omega) ?_
    try(refine zz ?_;(repeat constructor);intro _)
    refine wp_bind ?_
    have hx : s.jobs[i]? = some s.jobs[i] := List.getElem?_eq_getElem hlt
    refine wp_ownN (v := m.vj) H 3 rfl hx ?_
    refine wp_tmpN H rfl rfl rfl fun q S2 H => ?_
    have H : Cx B0 W S2 (.sl w 4 (lvs (liv (s.jobs.take i))) :: (mOwn x s m ++ R)) (.pt q 0 s.jobs[i].cs :: ro) := H
    have hf := filter_succ (p := isLive) hlt
    have yes : isLive s.jobs[i] = true → wp EM (.bind (Tryz.a50x0 [I (i : Int), w] (.ptr q 0) (B true)) none (fun v19 => .ret .normal [nth v19 0]) (fun v19 => [nth v19 0])) S2 (boundTo EM (some 1) (fun v4 => .op (.bin .add (I (i : Int)) (I 1)) fun v5 => .ret .normal [v5, nth v4 0]) (fun v4 => [I (i : Int), nth v4 0]) fun t vs1 S1 => (t = .normal ∧ ∃ w : AV, vs1 = [I ((i + 1 : Nat) : Int), w] ∧ Cx B0 W S1 (.sl w 4 (lvs (liv (s.jobs.take (i + 1)))) :: (mOwn x s m ++ R)) ro) ∨ (t ≠ .normal ∧ boundTo EM (some 0) (fun v2 => .call (.fn (.func 70) [] []) [nth v2 1, .fn (.func 69) [] []] fun v3 => .ret .ret [nth v2 1]) (fun v2 => [Ns]) (fun t vs S' => t = .ret ∧ ∃ L, StS (liv s.jobs) L ∧ L.length = (liv s.jobs).length ∧ Cx B0 W S' (.sl (oneOf vs) 4 (lvs L) :: (mOwn x s m ++ R)) ro) t [nth vs1 0, nth vs1 1] S1)) := by
      intro hl
      rw [if_pos hl] at hf
      unfold Tryz.a50x0
      refine wp_bind ?_
      try(refine zz ?_;(repeat constructor);intro _)
      refine wp_ldn H (o := 0) (n := 4) (cs := s.jobs[i].cs) (by repeat (first | exact List.Mem.head _ | apply List.Mem.tail)) rfl ?_
      refine wp_pushL (y := s.jobs[i]) H (by have := List.length_filter_le isLive (s.jobs.take i); rw [List.length_take] at this; unfold liv; omega) fun v1 S3 H => ?_
      refine wp_ret ?_
      show wp EM _ _ _
      refine wp_ret ?_
      show wp EM _ _ _
      refine wp_add64 (by omega) (by omega) (wp_ret (.inl ⟨rfl, v1, rfl, ?_⟩))
      have e : liv (s.jobs.take (i + 1)) = liv (s.jobs.take i) ++ [s.jobs[i]] := hf
      rw [e]; exact H.tl
    unfold Tryz.a50x0 at yes
    try(refine zz ?_;(repeat constructor);intro _)
    refine wp_ld H (o := 1) (cs := s.jobs[i].cs) (by repeat (first | exact List.Mem.head _ | apply List.Mem.tail)) rfl ?_
    refine wp_eql (fun h2 => ?_) (fun h2 => ?_)
    · try(refine zz ?_;(repeat constructor);intro _)
      exact yes (by simp [isLive, h2])
    try(refine zz ?_;(repeat constructor);intro _)
    refine wp_ld H (o := 1) (cs := s.jobs[i].cs) (by repeat (first | exact List.Mem.head _ | apply List.Mem.tail)) rfl ?_
    try(refine zz ?_;(repeat constructor);intro _)
    refine wp_eql (fun h3 => ?_) (fun h3 => ?_)
    · try(refine zz ?_;(repeat constructor);intro _)
      exact yes (by simp [isLive, h3])
    try(refine zz ?_;(repeat constructor);intro _)
    refine wp_ld H (o := 1) (cs := s.jobs[i].cs) (by repeat (first | exact List.Mem.head _ | apply List.Mem.tail)) rfl ?_
    try(refine zz ?_;(repeat constructor);intro _)
    refine wp_eql (fun h4 => ?_) (fun h4 => ?_)
    · try(refine zz ?_;(repeat constructor);intro _)
      exact yes (by simp [isLive, h4])
    clear yes
    try(refine zz ?_;(repeat constructor);intro _)
    rw [if_neg (by simp [isLive, h2, h3, h4])] at hf
    refine wp_bind ?_
    try(refine zz ?_;(repeat constructor);intro _)
    refine wp_ret ?_
    show wp EM _ _ _
    refine wp_ret ?_
    show wp EM _ _ _
    refine wp_add64 (by omega) (by omega) (wp_ret (.inl ⟨rfl, w, rfl, ?_⟩))
    have e : liv (s.jobs.take (i + 1)) = liv (s.jobs.take i) := hf
    rw [e]; exact H.tl
  · clear H
    rintro vs S1 ⟨w, rfl, H⟩
    rw [List.take_length] at H
    refine wp_lss_f (by omega) ?_
    try(refine zz ?_;(repeat constructor);intro _)
    refine wp_ret ⟨by simp, ?_⟩
    show wp EM _ _ _
    refine wp_call (wpC_mono (sortL_ok (by have := List.length_filter_le isLive s.jobs; (try unfold liv); omega) (wf.dst.sublist List.filter_sublist) H) fun r S2 q => ?_)
    exact wp_ret ⟨rfl, q⟩
theorem greatest_ok {l : List Int} (hl : l.length < 1000000) (hv : RoSl S v 1 (uints l)) : wpC EM (.fn (.func 110) [] []) [v, .fn (.func 85) [] []] S fun r S' => ((l = [] ∧ r = I (-1)) ∨ ∃ c : Nat, IsMax l c ∧ r = I (c : Int)) ∧ Grows S S' := by
  refine wpC_fn (b := Tryz.a110) rfl rfl ?_
  have H := Cx.ro1 hv
  unfold Tryz.a110 Tryz.a110x4 Tryz.a110x3 Tryz.a110x2 Tryz.a110x1 Tryz.a110x0
  refine wp_len H (by repeat (first | exact List.Mem.head _ | apply List.Mem.tail)) ?_
  rw [uints_len]
  refine wp_bind (wp_loop (wpL_for l.length (fun i vs S1 => ∃ w : AV, vs = [I (i : Int), w] ∧ ((i = 0 ∧ w = I (-1)) ∨ ∃ c : Nat, c < i ∧ w = I (c : Int) ∧ ∃ z, l[c]? = some z ∧ (∀ (j : Nat) y, j < i → l[j]? = some y → y ≤ z) ∧ ∀ (j : Nat) y, j < c → l[j]? = some y → y < z) ∧ Cx S [] S1 [] [.sl v 1 (uints l)]) ?_ ?_ ⟨_, rfl, .inl ⟨rfl, rfl⟩, H⟩))
  · clear H
    rintro i vs S1 hlt ⟨w, rfl, hw, H⟩
    have hx : l[i]? = some l[i] := List.getElem?_eq_getElem hlt
    generalize l[i] = a at hx
    refine wp_lss_t (by omega) ?_
    try(refine zz ?_;(repeat constructor);intro _)
    refine wp_bind ?_
    refine wp_saddr H (by repeat (first | exact List.Mem.head _ | apply List.Mem.tail)) (uints_get? hx) fun p o H => ?_
    refine wp_load0 H (cs := [U a]) (by repeat (first | exact List.Mem.head _ | apply List.Mem.tail)) rfl ?_
    have take : ∀ S2, (∀ (j : Nat) y, j < i → l[j]? = some y → y < a) → Cx S [] S2 [] [.sl v 1 (uints l)] → ∃ w : AV, [I ((i : Int) + 1), I (i : Int)] = [I ((i + 1 : Nat) : Int), w] ∧ ((i + 1 = 0 ∧ w = I (-1)) ∨ ∃ c : Nat, c < i + 1 ∧ w = I (c : Int) ∧ ∃ z, l[c]? = some z ∧ (∀ (j : Nat) y, j < i + 1 → l[j]? = some y → y ≤ z) ∧ ∀ (j : Nat) y, j < c → l[j]? = some y → y < z) ∧ Cx S [] S2 [] [.sl v 1 (uints l)] := by
      intro S2 h H
      refine ⟨_, rfl, .inr ⟨i, by omega, rfl, a, hx, fun j y hj hy => ?_, fun j y hj hy => h j y hj hy⟩, H⟩
      by_cases e : j = i
      · subst e; rw [hx] at hy; cases hy; omega
      · have := h j y (by omega) hy; omega
    rcases hw with ⟨rfl, rfl⟩ | ⟨c, hc, rfl, z, hz, hz1, hz2⟩
    · refine wp_lss_t (by omega) ?_
      try(refine zz ?_;(repeat constructor);intro _)
      refine wp_bind ?_
      try(refine zz ?_;(repeat constructor);intro _)
      refine wp_ret ?_
      show wp EM _ _ _
      refine wp_ret ?_
      show wp EM _ _ _
      refine wp_add64 (by omega) (by omega) (wp_ret (.inl ⟨rfl, take _ (fun j y hj => absurd hj (by omega)) H.tl⟩))
    · refine wp_lss_f (by omega) ?_
      try(refine zz ?_;(repeat constructor);intro _)
      refine wp_saddr H (by repeat (first | exact List.Mem.head _ | apply List.Mem.tail)) (uints_get? hz) fun p2 o2 H => ?_
      try(refine zz ?_;(repeat constructor);intro _)
      refine wp_load0 H (cs := [U z]) (by repeat (first | exact List.Mem.head _ | apply List.Mem.tail)) rfl ?_
      try(refine zz ?_;(repeat constructor);intro _)
      refine wp_callV H compareU_ok fun S2 H => ?_
      try(refine zz ?_;(repeat constructor);intro _)
      have keep : ¬ z < a → ∃ w : AV, [I ((i : Int) + 1), I (c : Int)] = [I ((i + 1 : Nat) : Int), w] ∧ ((i + 1 = 0 ∧ w = I (-1)) ∨ ∃ c : Nat, c < i + 1 ∧ w = I (c : Int) ∧ ∃ z, l[c]? = some z ∧ (∀ (j : Nat) y, j < i + 1 → l[j]? = some y → y ≤ z) ∧ ∀ (j : Nat) y, j < c → l[j]? = some y → y < z) ∧ Cx S [] S2 [] [.sl v 1 (uints l)] := by
        intro h
        refine ⟨_, rfl, .inr ⟨c, by omega, rfl, z, hz, fun j y hj hy => ?_, hz2⟩, H.tl.tl⟩
        by_cases e : j = i
        · subst e; rw [hx] at hy; cases hy; omega
        · exact hz1 j y (by omega) hy
      refine wp_gtr (fun hg => ?_) (fun hg => ?_)
      · have hza : z < a := by
          unfold cmpI at hg
          split at hg
          · omega
          · split at hg <;> omega
        try(refine zz ?_;(repeat constructor);intro _)
        refine wp_bind ?_
        try(refine zz ?_;(repeat constructor);intro _)
        refine wp_ret ?_
        show wp EM _ _ _
        refine wp_ret ?_
        show wp EM _ _ _
        refine wp_add64 (by omega) (by omega) (wp_ret (.inl ⟨rfl, take _ (fun j y hj hy => by have := hz1 j y hj hy; omega) H.tl.tl⟩))
      · have hza : ¬ z < a := by
          intro h
          unfold cmpI at hg
          rw [if_neg (by omega), if_pos h] at hg; omega
        try(refine zz ?_;(repeat constructor);intro _)
        refine wp_bind ?_
        try(refine zz ?_;(repeat constructor);intro _)
        refine wp_ret ?_
        show wp EM _ _ _
        refine wp_ret ?_
        show wp EM _ _ _
        refine wp_add64 (by omega) (by omega) (wp_ret (.inl ⟨rfl, keep hza⟩))
  · clear H
    rintro vs S1 ⟨w, rfl, hw, H⟩
    refine wp_lss_f (by omega) ?_
    try(refine zz ?_;(repeat constructor);intro _)
    refine wp_ret ⟨by simp, ?_⟩
    show wp EM _ _ _
    refine wp_ret ⟨rfl, ?_, H.grows⟩
    rcases hw with ⟨h0, rfl⟩ | ⟨c, hc, rfl, z, hz, hz1, hz2⟩
    · exact .inl ⟨List.eq_nil_of_length_eq_zero h0, rfl⟩
    · exact .inr ⟨c, ⟨z, hz, fun j y hy => hz1 j y (List.getElem?_eq_some_iff.1 hy).1 hy, hz2⟩, rfl⟩
theorem worst_ok {l : List Int} {key : Int} (hl : l.length < 1000000) (hv : RoSl S v 1 (uints l)) : wpC EM (.fn (.func 92) [] []) [v, U key] S fun r S' => ((l = [] ∧ r = .tup [I (-1), B false]) ∨ ∃ (c : Nat) (w : Int), IsMax l c ∧ l[c]? = some w ∧ r = if w ≤ key then .tup [I (-1), B false] else .tup [I (c : Int), B true]) ∧ Grows S S' := by
  refine wpC_fn (b := Tryz.a92) rfl rfl ?_
  have H := Cx.ro1 hv
  unfold Tryz.a92 Tryz.a92x0
  refine wp_callG H (greatest_ok hl (H.roSl (by repeat (first | exact List.Mem.head _ | apply List.Mem.tail)))) fun r S1 hr H => ?_
  rcases hr with ⟨h0, rfl⟩ | ⟨c, hc, rfl⟩
  · refine wp_lss_t (by omega) ?_
    try(refine zz ?_;(repeat constructor);intro _)
    exact wp_ret ⟨rfl, .inl ⟨h0, rfl⟩, H.grows⟩
  · obtain ⟨z, hz, _⟩ := id hc
    refine wp_lss_f (by omega) ?_
    try(refine zz ?_;(repeat constructor);intro _)
    refine wp_saddr H (by repeat (first | exact List.Mem.head _ | apply List.Mem.tail)) (uints_get? hz) fun p2 o2 H => ?_
    try(refine zz ?_;(repeat constructor);intro _)
    refine wp_load0 H (cs := [U z]) (by repeat (first | exact List.Mem.head _ | apply List.Mem.tail)) rfl ?_
    try(refine zz ?_;(repeat constructor);intro _)
    refine wp_leq (fun h => ?_) (fun h => ?_)
    · try(refine zz ?_;(repeat constructor);intro _)
      exact wp_ret ⟨rfl, .inr ⟨c, z, hc, hz, by rw [if_pos h]; rfl⟩, H.grows⟩
    · try(refine zz ?_;(repeat constructor);intro _)
      exact wp_ret ⟨rfl, .inr ⟨c, z, hc, hz, by rw [if_neg (by omega)]; rfl⟩, H.grows⟩
end
end Go.Abs
namespace Go.Abs
open Go.Proofs
set_option maxRecDepth 100000
set_option linter.unusedVariables false
open Tsk (Tk tks tchk)
theorem e_ptrNil {M : Mach} {S : AH} {t id off : Nat} {n : Bool} (ht : typc M.P t = 1) : evalOp M.P (.eq t n (.ptr id off) Np) S = some (B n, S) := by
  show pur (pEq M.P t n (.ptr id off) Np) S = _
  have : aeq M.P t (.ptr id off) Np = some false := by
    unfold aeq
    rw [ht]
    rfl
  unfold pEq
  rw [this]
  cases n <;> rfl
section
variable {B0 S : AH} {W : List Nat} {own R : List Own} {ro : List Fct} {Q : Post} {k : AV → AC} {v : AV} {x : Nat} {s : Ms} {m : Mv}
theorem jobsSome (H : Cx B0 W S (mOwn x s m ++ R) ro) (hj : 0 < s.jobs.length) : evalOp EM.P (.eq 53 false m.vj Ns) S = some (B false, S) := by
  have h : slW S m.vj 4 (lvs s.jobs) := H.oh _ (List.mem_of_getElem? (i := 2) rfl)
  generalize m.vj = v at h
  rcases h with ⟨_, h⟩ | ⟨id, off, c, (⟨_, _, _, rfl⟩ | ⟨_, _, _, rfl⟩), _⟩
  · have := congrArg List.length h
    rw [lvs_len] at this
    simp at this; rw [this] at hj; simp at hj
  · show evalOp EM.P (.eq 53 false _ Ns) S = some (B false, S)
    kernel_rfl
  · show evalOp EM.P (.eq 53 false _ Ns) S = some (B false, S)
    kernel_rfl
theorem nothing_ok (hj : 0 < s.jobs.length) (H : Cx B0 W S (mOwn x s m ++ R) ro) : wpC EM (.fn (.func 24) [] []) [.ptr x 0] S fun r S' => r = B false ∧ S' = S := by
  refine wpC_fn (b := Tryz.a24) rfl rfl ?_
  unfold Tryz.a24 Tryz.a24x0
  refine wp_op (e_ptrNil (by kernel_rfl)) ?_
  try(refine zz ?_;(repeat constructor);intro _)
  refine wp_row (j := 9) H 0 rfl rfl ?_
  try(refine zz ?_;(repeat constructor);intro _)
  refine wp_op (jobsSome H hj) ?_
  try(refine zz ?_;(repeat constructor);intro _)
  exact wp_ret ⟨rfl, rfl, rfl⟩
theorem words_take {s : Ms} {i : Nat} {r : Int} (h : s.runs[i]? = some r) : s.words.take (i + 1) = s.words.take i ++ [s.word r] := by
  obtain ⟨hi, rfl⟩ := List.getElem?_eq_some_iff.1 h
  unfold Ms.words
  rw [← List.map_take, ← List.map_take, List.take_succ_eq_append_getElem hi, List.map_append]
  rfl
theorem uints_app (a b : List Int) : uints (a ++ b) = uints a ++ uints b := List.map_append ..
set_option maxHeartbeats 1000000 in
theorem balance_ok (wf : s.Wf) (hj : s.jobs.length ≤ 64) (H : Cx B0 W S (mOwn x s m ++ R) ro) : wpC EM (.fn (.func 76) [] []) [.ptr x 0] S fun _ S' => ∃ s', Bal s s' ∧ Cx B0 W S' (mOwn x s' m ++ R) ro := by
  refine wpC_fn (b := Tryz.a76) rfl rfl ?_
  unfold Tryz.a76 Tryz.a76x7 Tryz.a76x6 Tryz.a76x5 Tryz.a76x4 Tryz.a76x3 Tryz.a76x2 Tryz.a76x1 Tryz.a76x0
  refine wp_call (wpC_mono (ready_ok wf hj H) fun l S1 q => ?_)
  obtain ⟨L, hL, hLl, H⟩ := q
  refine wp_leno H 0 rfl ?_
  rw [lvs_len]
  refine wp_eql (fun h0 => ?_) (fun h0 => ?_)
  · try(refine zz ?_;(repeat constructor);intro _)
    refine wp_ret ⟨rfl, s, .inl ⟨?_, rfl⟩, H.dropAt 0⟩
    exact List.eq_nil_of_length_eq_zero (by omega)
  try(refine zz ?_;(repeat constructor);intro _)
  refine wp_row (j := 12) H 1 rfl rfl ?_
  refine wp_leno H 6 rfl ?_
  rw [ints_len]
  have hrl := wf.rl
  have hc := wf.c64
  have H := H.addNilS 1
  refine wp_bind (wp_loop (wpL_for s.runs.length (fun i vs S1 => ∃ w u : AV, vs = [I (i : Int), w, u] ∧ Cx B0 W S1 (.sl w 1 (uints (s.words.take i)) :: .sl l 4 (lvs L) :: (mOwn x s m ++ R)) ro) ?_ ?_ ⟨_, _, rfl, H⟩))
  · clear H
    rintro i vs S1 hlt ⟨w, u, rfl, H⟩
    have hr : s.runs[i]? = some s.runs[i] := List.getElem?_eq_getElem hlt
    have hrb := wf.rb _ (List.mem_of_getElem? hr)
    generalize s.runs[i] = r at hr hrb
    have hwt := words_take hr
    refine wp_lss_t (by omega) ?_
    try(refine zz ?_;(repeat constructor);intro _)
    refine wp_bind ?_
    refine wp_at (es := 1) H 7 rfl (by rw [ints_len]; exact hlt) fun id off hp => ?_
    refine wp_atL0 H 7 rfl hp (ints_get? hr) rfl ?_
    have fin : ∀ {S2 : AH}, Cx B0 W S2 (.sl w 1 (uints (s.words.take i)) :: .sl l 4 (lvs L) :: (mOwn x s m ++ R)) ro → wp EM (.op (.bslice 1 1 [U 0] [(0, 1, U (s.word r))]) fun v14 => .op (.append 1 8 w v14) fun v15 => .ret .normal [v15, U (s.word r)]) S2 fun t vs1 S1 => t = .normal ∧ ∃ w u, vs1 = [w, u] ∧ Cx B0 W S1 (.sl w 1 (uints (s.words.take (i + 1))) :: .sl l 4 (lvs L) :: (mOwn x s m ++ R)) ro := by
      intro S2 H
      have hlw : (uints (s.words.take i)).length ≤ 64 := by rw [uints_len, List.length_take]; unfold Ms.words; rw [List.length_map]; omega
      refine wp_push (x := U (s.word r)) H 0 rfl rfl rfl rfl (by unfold maxBytes; omega) (by unfold maxLenN; omega) fun v1 S3 H => ?_
      refine wp_ret ⟨rfl, _, _, rfl, ?_⟩
      rw [hwt, uints_app]; exact H
    refine wp_neq (fun hne => ?_) (fun he => ?_)
    · refine wp_bind ?_
      try(refine zz ?_;(repeat constructor);intro _)
      refine wp_row (j := 9) H 2 rfl rfl ?_
      obtain ⟨n, rfl⟩ : ∃ n : Nat, r = (n : Int) := ⟨r.toNat, by omega⟩
      have hn : n < s.jobs.length := by omega
      have hjx : s.jobs[n]? = some s.jobs[n] := List.getElem?_eq_getElem hn
      refine wp_at (es := 4) H 4 rfl (by rw [lvs_len]; exact hn) fun id2 off2 hp2 => ?_
      try(refine zz ?_;(repeat constructor);intro _)
      refine wp_atL H 4 rfl hp2 (lvs_get? hjx) (j := 3) rfl ?_
      refine wp_ret ?_
      have e : s.word (n : Int) = s.jobs[n].key := by
        unfold Ms.word
        rw [if_neg (by omega), Int.toNat_natCast, hjx]
      rw [e] at fin
      refine wp_mono (fin H) fun t vs1 S3 q => ?_
      obtain ⟨rfl, w2, u2, rfl, H⟩ := q
      show wp EM _ _ _
      refine wp_add64 (by omega) (by omega) (wp_ret (.inl ⟨rfl, w2, u2, rfl, H⟩))
    · subst he
      refine wp_bind ?_
      try(refine zz ?_;(repeat constructor);intro _)
      refine wp_ret ?_
      have e : s.word (-1) = 18446744073709551615 := rfl
      rw [e] at fin
      refine wp_mono (fin H) fun t vs1 S3 q => ?_
      obtain ⟨rfl, w2, u2, rfl, H⟩ := q
      show wp EM _ _ _
      refine wp_add64 (by omega) (by omega) (wp_ret (.inl ⟨rfl, w2, u2, rfl, H⟩))
  · clear H
    rintro vs S1 ⟨w, u, rfl, H⟩
    have hwl : s.words.length = s.runs.length := List.length_map ..
    rw [← hwl, List.take_length] at H
    refine wp_lss_f (by omega) ?_
    try(refine zz ?_;(repeat constructor);intro _)
    refine wp_ret ⟨by simp, ?_⟩
    show wp EM _ _ _
    cases L with
    | nil => simp at h0
    | cons z L =>
    have hz := hL.head
    refine wp_at (es := 4) (i := 0) H 1 rfl (by simp [lvs]) fun id off hp => ?_
    try(refine zz ?_;(repeat constructor);intro _)
    refine wp_atL H 1 rfl hp (x := z.cs) rfl (j := 3) rfl ?_
    refine wp_callG H (worst_ok (l := s.words) (key := z.key) (by omega) (H.ownSl (n := 0) rfl)) fun r S2 hr H => ?_
    have H0 := (H.dropAt 0).dropAt 0
    rcases hr with ⟨h0, _⟩ | ⟨c, w, h1, h2, hr⟩
    · rw [h0] at hwl; simp at hwl; omega
    by_cases hle : w ≤ z.key
    · rw [if_pos hle] at hr
      subst hr
      try(refine zz ?_;(repeat constructor);intro _)
      refine wp_bind ?_
      try(refine zz ?_;(repeat constructor);intro _)
      refine wp_ret ?_
      show wp EM _ _ _
      exact wp_ret ⟨rfl, s, .inr ⟨z, c, w, hz, h1, h2, by rw [if_pos hle]⟩, H0⟩
    · rw [if_neg hle] at hr
      subst hr
      have hcl : c < s.flags.length := by
        have := (List.getElem?_eq_some_iff.1 h2).1
        have := wf.gl
        omega
      try(refine zz ?_;(repeat constructor);intro _)
      refine wp_bind ?_
      try(refine zz ?_;(repeat constructor);intro _)
      refine wp_row (j := 13) H 2 rfl rfl ?_
      refine wp_at (es := 1) H 8 rfl (by rw [bls_len]; exact hcl) fun id2 off2 hp2 => ?_
      refine wp_atS0 H 8 rfl hp2 (bls_get hcl) rfl rfl (by omega) (by simp) fun S3 H => ?_
      have e : (bls s.flags).set c ([B s.flags[c]].set 0 (B true)) = bls (s.flags.set c true) := bls_set ..
      rw [e] at H
      refine wp_ret ?_
      show wp EM _ _ _
      refine wp_ret ⟨rfl, { s with flags := s.flags.set c true }, .inr ⟨z, c, w, hz, h1, h2, by rw [if_neg hle]⟩, ?_⟩
      exact (H.dropAt 0).dropAt 0
end
end Go.Abs
namespace Go.Abs
open Go.Proofs
set_option maxRecDepth 100000
set_option linter.unusedVariables false
open Tsk (Tk tks tchk)
section
variable {M : Mach} {B0 S : AH} {W : List Nat} {own R : List Own} {ro : List Fct} {Q : Post} {k : AV → AC} {v : AV} {x : Nat} {s : Ms} {m : Mv} {id off n cap es : Nat}
theorem bndO_at {i d n : Nat} (h : i ≤ n) : bndO (some (I (i : Int))) d n = some i := by
  show below i (Nat.succ n) = some i
  unfold below; rw [ble_t (by omega)]
theorem bnds_of {lo hi mx : Option AV} {len cap l h m : Nat} (h1 : bndO mx cap cap = some m) (h2 : bndO hi len m = some h) (h3 : bndO lo 0 h = some l) (h4 : (mx.isSome && hi.isNone) = false) : bnds lo hi mx len cap = some (l, h, m) := by
  unfold bnds
  rw [h1]; simp only; rw [h2]; simp only; rw [h3]; simp only; rw [h4]; rfl
theorem e_ss_sl {lo hi mx : Option AV} {l h m : Nat} (hb : bnds lo hi mx n cap = some (l, h, m)) : evalOp M.P (.sslice es (.sl id off n cap) lo hi mx) S = some (.sl id (if Nat.beq m l then off else Nat.add off (Nat.mul l es)) (h - l) (m - l), S) := by
  show pur (pSslice es (.sl id off n cap) lo hi mx) S = _
  unfold pSslice
  simp only [hb]; rfl
theorem e_ss_op {lo hi : Option AV} {l h m : Nat} (hb : bnds lo hi none n cap = some (l, h, m)) : evalOp M.P (.sslice es (.op id off n cap es) lo hi none) S = some (.op id (Nat.add off (Nat.mul l es)) (h - l) (cap - l) es, S) := by
  show pur (pSslice es (.op id off n cap es) lo hi none) S = _
  unfold pSslice
  simp only [hb, Nat.beq_refl]; rfl
theorem e_ss_opm {lo hi : Option AV} {mx : AV} {l h m : Nat} (hb : bnds lo hi (some mx) n cap = some (l, h, m)) : ∃ t, evalOp M.P (.sslice es (.op id off n cap es) lo hi (some mx)) S = some (t, S) := by
  have : ∃ t, pSslice es (.op id off n cap es) lo hi (some mx) = some t := by
    unfold pSslice
    simp only [hb, Nat.beq_refl]
    cases Nat.beq cap 0 with
    | true => exact ⟨_, rfl⟩
    | false => exact ⟨_, rfl⟩
  obtain ⟨t, ht⟩ := this
  refine ⟨t, ?_⟩
  show pur (pSslice es (.op id off n cap es) lo hi (some mx)) S = _
  rw [ht]; rfl
theorem e_clr {zero : List AV} {c : List AV} (hg : S.get id = some (.row c)) (h1 : off + n * es ≤ c.length) (h2 : zero.length = es) {t : AV} (ht : t = .sl id off n cap ∨ t = .op id off n cap es) :
    evalOp M.P (.clear es zero t) S = some (uv, S.set id (.row (setRange c off (repZero zero n)))) := by
  have hq : (Nat.ble (off + n * es) (lenL c) && Nat.beq (lenL zero) es) = true := by rw [lenL_eq, lenL_eq, ble_t h1, h2, Nat.beq_refl]; rfl
  rcases ht with rfl | rfl
  · show (match S.get id with | some (.row c) => if Nat.ble (off + n * es) (lenL c) && Nat.beq (lenL zero) es then some (uv, S.set id (.row (setRange c off (repZero zero n)))) else none | some (.ro _) => if Nat.beq n 0 then some (uv, S) else none | _ => none) = _
    rw [hg]; simp only [hq, if_true]
  · show (match S.get id with | some (.row c) => if Nat.ble (off + n * es) (lenL c) && Nat.beq (lenL zero) es then some (uv, S.set id (.row (setRange c off (repZero zero n)))) else none | some (.ro _) => if Nat.beq n 0 then some (uv, S) else none | _ => none) = _
    rw [hg]; simp only [hq, if_true]
theorem e_appSl {x : AV} {bytes k : Nat} {c news : List AV} (hx : elems S es x = some (k, news)) (hg : S.get id = some (.row c)) (h1 : off + cap * es ≤ c.length) (h2 : n + k ≤ cap) :
    evalOp M.P (.append es bytes (.sl id off n cap) x) S = some (.sl id off (n + k) cap, S.set id (.row (setRange c (off + n * es) news))) := by
  show eAppend es bytes (.sl id off n cap) x S = _
  unfold eAppend
  rw [hx]
  simp only [hg]
  have hq : (Nat.ble (off + cap * es) (lenL c) && Nat.ble n cap) = true := by rw [lenL_eq, ble_t h1, ble_t (by omega)]; rfl
  rw [if_pos hq, if_pos (ble_t h2)]
theorem e_appOp {x : AV} {bytes k : Nat} {c news : List AV} (hx : elems S es x = some (k, news)) (hg : S.get id = some (.row c)) (h1 : off + cap * es ≤ c.length) (h2 : n + k ≤ cap) :
    evalOp M.P (.append es bytes (.op id off n cap es) x) S = some (.op id off (n + k) cap es, S.set id (.row (setRange c (off + n * es) news))) := by
  show eAppend es bytes (.op id off n cap es) x S = _
  unfold eAppend
  rw [hx]
  simp only [hg]
  have hq : (Nat.beq es es && Nat.ble (off + cap * es) (lenL c) && Nat.ble n cap) = true := by rw [lenL_eq, ble_t h1, ble_t (by omega), Nat.beq_refl]; rfl
  rw [if_pos hq, if_pos (ble_t h2)]
theorem ints_flat (l : List Int) : (ints l).flatten = l.map I := by
  induction l with
  | nil => rfl
  | cons a l ih => show [I a] ++ (ints l).flatten = _; rw [ih]; rfl
theorem del0_ok {a : Int} {r : List Int} (H : Cx B0 W S own ro) (n : Nat) (hm : own[n]? = some (.sl v 1 (ints (a :: r)))) :
    wpC EM (.fn (.func 75) [] []) [v, I 0, I 1] S fun u S' => Cx B0 W S' (own.set n (.sl u 1 (ints r))) ro := by
  refine wpC_fn (b := Tryz.a75) rfl rfl ?_
  unfold Tryz.a75 Tryz.a75x0
  have hw : slW S v 1 (ints (a :: r)) := H.oh _ (List.mem_of_getElem? hm)
  rcases hw with ⟨_, h⟩ | ⟨id, off, c, h0, h1, h2, h3⟩
  · simp [ints] at h
  have hlen : (ints (a :: r)).length = r.length + 1 := by rw [ints_len]; rfl
  rw [hlen] at h0 h2
  refine wp_leno H n hm ?_
  rw [hlen]
  have hcell : S.cells? id = some c := row_cells h1
  have hnews : ((c.drop (off + 1)).take r.length) = r.map I := by
    have e := congrArg (List.drop 1) h2
    rw [ints_flat, List.drop_take, List.drop_drop] at e
    simpa using e
  have fin : ∀ (mk : Nat → AV) (cap : Nat), (∀ n c', n ≤ cap → off + cap ≤ c'.length → slForm (mk n) 1 n id off c') → v = mk (r.length + 1) → r.length + 1 ≤ cap → off + cap ≤ c.length → ∀ S', S' = (S.set id (.row (setRange c off (r.map I)))).set id (.row (setRange (setRange c off (r.map I)) (off + r.length) [I 0])) → Cx B0 W S' (own.set n (.sl (mk r.length) 1 (ints r))) ro := by
    intro mk cap hmk hv hc1 hc2 S' hS
    have l1 : (setRange c off (r.map I)).length = c.length := setRange_length (by simp; omega)
    have l2 : (setRange (setRange c off (r.map I)) (off + r.length) [I 0]).length = c.length := by rw [setRange_length (by simp; omega), l1]
    subst hS
    have hids : vids v = [id] := by rw [hv, (hmk (r.length + 1) c hc1 hc2).ids]
    refine H.step hm (by simp [AH.set]) ?_ ?_ ?_
    · intro j hj hne
      have hne : j ≠ id := by rw [show (Own.sl v 1 (ints (a :: r))).ids = vids v from rfl, hids] at hne; simpa using hne
      rw [AH.get_set, if_neg hne, AH.get_set, if_neg hne]
    · refine .inr ⟨id, off, _, ?_, by rw [AH.get_set, if_pos rfl], ?_, ?_⟩
      · rw [ints_len]; exact hmk _ _ (by omega) (by omega)
      · rw [ints_len, ints_flat]
        apply List.ext_getElem?
        intro j
        rw [List.getElem?_take, List.getElem?_drop]
        by_cases hj : j < r.length * 1
        · rw [if_pos hj, setRange_get (by simp; omega), if_neg (by simp; omega), setRange_get (by simp; omega), if_pos (by simp; omega)]
          congr 1; omega
        · rw [if_neg hj, List.getElem?_eq_none (by simp; omega)]
      · intro y hy
        obtain ⟨b, _, rfl⟩ := List.mem_map.1 hy
        rfl
    · intro j hj
      have hj' : j = id := by
        have : j ∈ vids (mk r.length) := hj
        rw [(hmk r.length c (by omega) hc2).ids] at this
        simpa using this
      subst hj'
      have hmem : j ∈ (Own.sl v 1 (ints (a :: r))).ids := by show j ∈ vids v; rw [hids]; simp
      refine ⟨?_, .inl hmem⟩
      have := (H.oi _ (List.mem_of_getElem? hm) j hmem).1
      exact this
  rcases h0 with ⟨cap, q1, q2, rfl⟩ | ⟨cap, q1, q2, rfl⟩
  · refine wp_op (e_ss_sl (bnds_of (m := r.length + 1) (h := 1) (l := 0) (bndO_at (i := r.length + 1) q1) (bndO_at (i := 1) (by omega)) (bndO_at (i := 0) (by omega)) rfl)) ?_
    refine wp_eql_f (by omega) ?_
    try(refine zz ?_;(repeat constructor);intro _)
    refine wp_leno H n hm ?_
    rw [hlen]
    refine wp_op (e_ss_sl (bnds_of (m := cap) (h := 0) (l := 0) rfl (bndO_at (i := 0) (by omega)) rfl rfl)) ?_
    refine wp_op (e_ss_sl (bnds_of (m := cap) (h := r.length + 1) (l := 1) rfl rfl (bndO_at (i := 1) (by omega)) rfl)) ?_
    have e1 : (if Nat.beq cap 0 = true then off else Nat.add off (Nat.mul 0 1)) = off := by split <;> simp
    have e2 : elems S 1 (.sl id (if Nat.beq cap 1 = true then off else Nat.add off (Nat.mul 1 1)) (r.length + 1 - 1) (cap - 1)) = some (r.length, r.map I) := by
      show (match S.cells? id with | some c => if Nat.ble ((if Nat.beq cap 1 = true then off else Nat.add off (Nat.mul 1 1)) + (r.length + 1 - 1) * 1) (lenL c) then some (r.length + 1 - 1, takeL ((r.length + 1 - 1) * 1) (dropL (if Nat.beq cap 1 = true then off else Nat.add off (Nat.mul 1 1)) c)) else none | none => none) = _
      simp only [hcell]
      by_cases hc : Nat.beq cap 1 = true
      · rw [if_pos hc]
        have hc := Nat.eq_of_beq_eq_true hc
        have hr : r = [] := List.eq_nil_of_length_eq_zero (by omega)
        subst hr
        have hbl : Nat.ble (off + (([] : List Int).length + 1 - 1) * 1) (lenL c) = true := by rw [lenL_eq]; exact ble_t (by simp; omega)
        rw [if_pos hbl]
        simp [takeL_eq]
      · rw [if_neg hc]
        have hbl : Nat.ble (Nat.add off (Nat.mul 1 1) + (r.length + 1 - 1) * 1) (lenL c) = true := by rw [lenL_eq]; exact ble_t (by show off + 1 * 1 + (r.length + 1 - 1) * 1 ≤ _; omega)
        rw [if_pos hbl, takeL_eq, dropL_eq]
        have e3 : (r.length + 1 - 1) * 1 = r.length := by omega
        rw [e3]
        show some (r.length + 1 - 1, (c.drop (off + 1 * 1)).take r.length) = _
        rw [show off + 1 * 1 = off + 1 by omega, hnews]
        rfl
    rw [e1]
    refine wp_op (e_appSl e2 h1 (by omega) (by omega)) ?_
    have e4 : off + (0 - 0) * 1 = off := by omega
    rw [e4]
    refine wp_op (v := I (r.length : Int)) (S1 := S.set id (.row (setRange c off (r.map I)))) (by show pur (some (I ((0 - 0 + r.length : Nat) : Int))) _ = _; rw [show 0 - 0 + r.length = r.length by omega]; rfl) ?_
    have e5 : 0 - 0 + r.length = r.length := by omega
    have e6 : cap - 0 = cap := by omega
    rw [e5, e6]
    refine wp_op (e_ss_sl (bnds_of (m := cap) (h := r.length + 1) (l := r.length) rfl (bndO_at (i := r.length + 1) q1) (bndO_at (i := r.length) (by omega)) rfl)) ?_
    have e7 : (if Nat.beq cap r.length = true then off else Nat.add off (Nat.mul r.length 1)) = off + r.length := by
      rw [if_neg]
      · show off + r.length * 1 = _; omega
      · intro h; have := Nat.eq_of_beq_eq_true h; omega
    rw [e7]
    have l1 : (setRange c off (r.map I)).length = c.length := setRange_length (by simp; omega)
    refine wp_op (e_clr (S := S.set id (.row (setRange c off (r.map I)))) (es := 1) (off := off + r.length) (id := id) (c := setRange c off (r.map I)) (n := r.length + 1 - r.length) (cap := cap - r.length) (by rw [AH.get_set, if_pos rfl]) (by rw [l1]; omega) rfl (.inl rfl)) ?_
    refine wp_ret ⟨rfl, ?_⟩
    have e8 : repZero [I 0] (r.length + 1 - r.length) = [I 0] := by rw [show r.length + 1 - r.length = 1 by omega]; rfl
    rw [e8]
    exact fin (fun n => .sl id off n cap) cap (fun n c' h h' => .inl ⟨cap, h, by omega, rfl⟩) rfl q1 (by omega) _ rfl
  · obtain ⟨t, ht⟩ := e_ss_opm (M := EM) (S := S) (id := id) (off := off) (es := 1) (bnds_of (len := r.length + 1) (cap := cap) (m := r.length + 1) (h := 1) (l := 0) (bndO_at (i := r.length + 1) q1) (bndO_at (i := 1) (by omega)) (bndO_at (i := 0) (by omega)) rfl)
    refine wp_op ht ?_
    refine wp_eql_f (by omega) ?_
    try(refine zz ?_;(repeat constructor);intro _)
    refine wp_leno H n hm ?_
    rw [hlen]
    refine wp_op (e_ss_op (bnds_of (m := cap) (h := 0) (l := 0) rfl (bndO_at (i := 0) (by omega)) rfl rfl)) ?_
    refine wp_op (e_ss_op (bnds_of (m := cap) (h := r.length + 1) (l := 1) rfl rfl (bndO_at (i := 1) (by omega)) rfl)) ?_
    have e1 : Nat.add off (Nat.mul 0 1) = off := by simp
    have e2 : elems S 1 (.op id (Nat.add off (Nat.mul 1 1)) (r.length + 1 - 1) (cap - 1) 1) = some (r.length, r.map I) := by
      show (match S.cells? id with | some c => if Nat.ble (Nat.add off (Nat.mul 1 1) + (r.length + 1 - 1) * 1) (lenL c) then some (r.length + 1 - 1, takeL ((r.length + 1 - 1) * 1) (dropL (Nat.add off (Nat.mul 1 1)) c)) else none | none => none) = _
      simp only [hcell]
      have hbl : Nat.ble (Nat.add off (Nat.mul 1 1) + (r.length + 1 - 1) * 1) (lenL c) = true := by rw [lenL_eq]; exact ble_t (by show off + 1 * 1 + (r.length + 1 - 1) * 1 ≤ _; omega)
      rw [if_pos hbl, takeL_eq, dropL_eq]
      have e3 : (r.length + 1 - 1) * 1 = r.length := by omega
      rw [e3]
      show some (r.length + 1 - 1, (c.drop (off + 1 * 1)).take r.length) = _
      rw [show off + 1 * 1 = off + 1 by omega, hnews]
      rfl
    rw [e1]
    refine wp_op (e_appOp e2 h1 (by omega) (by omega)) ?_
    have e4 : off + (0 - 0) * 1 = off := by omega
    rw [e4]
    refine wp_op (v := I (r.length : Int)) (S1 := S.set id (.row (setRange c off (r.map I)))) (by show pur (some (I ((0 - 0 + r.length : Nat) : Int))) _ = _; rw [show 0 - 0 + r.length = r.length by omega]; rfl) ?_
    have e5 : 0 - 0 + r.length = r.length := by omega
    have e6 : cap - 0 = cap := by omega
    rw [e5, e6]
    refine wp_op (e_ss_op (bnds_of (m := cap) (h := r.length + 1) (l := r.length) rfl (bndO_at (i := r.length + 1) q1) (bndO_at (i := r.length) (by omega)) rfl)) ?_
    have e7 : Nat.add off (Nat.mul r.length 1) = off + r.length := by show off + r.length * 1 = _; omega
    rw [e7]
    have l1 : (setRange c off (r.map I)).length = c.length := setRange_length (by simp; omega)
    refine wp_op (e_clr (S := S.set id (.row (setRange c off (r.map I)))) (es := 1) (off := off + r.length) (id := id) (c := setRange c off (r.map I)) (n := r.length + 1 - r.length) (cap := cap - r.length) (by rw [AH.get_set, if_pos rfl]) (by rw [l1]; omega) rfl (.inr rfl)) ?_
    refine wp_ret ⟨rfl, ?_⟩
    have e8 : repZero [I 0] (r.length + 1 - r.length) = [I 0] := by rw [show r.length + 1 - r.length = 1 by omega]; rfl
    rw [e8]
    exact fin (fun n => .op id off n cap 1) cap (fun n c' h h' => .inr ⟨cap, h, by omega, rfl⟩) rfl q1 (by omega) _ rfl
end
end Go.Abs
