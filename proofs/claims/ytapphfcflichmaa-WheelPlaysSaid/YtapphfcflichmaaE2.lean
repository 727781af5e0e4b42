/- functions of this cut: what they compute, in the abstract machine. Conditions: stated in each theorem -/
import Derived.Test.YtapphfcflichmaaE1
set_option linter.unusedVariables false
set_option linter.unusedSimpArgs false
namespace Go.Abs
open Go.Proofs
set_option maxRecDepth 100000
set_option linter.unusedVariables false
section
variable {B0 S : AH} {W : List Nat} {own E R : List Own} {ro : List Fct} {Q : Post} {k : AV → AC} {w : Nat} {x : Wl} {blk : List Own}
theorem wp_Pick (H : Cx B0 W S own ro) {a n : Int} (hn : n ≤ 9223372036854775807) (h : ∀ S, Cx B0 W S own ro → wp EM (k (I (pick a n))) S Q) : wp EM (.call (.fn (.func 11) [] []) [I a, I n] k) S Q :=
  wp_call (wpC_mono (pick_ok rfl rfl hn) fun r S1 ⟨hr, hs⟩ => by subst hr hs; exact h _ H)
theorem pick_bd {a n : Int} (h : 0 < n) : 0 ≤ pick a n ∧ pick a n < n := by
  unfold pick
  rw [if_neg (by omega)]
  exact ⟨Int.emod_nonneg _ (by omega), Int.emod_lt_of_pos _ h⟩
/-- of 8 timers, when each is due (-1: it is not set) -/
def atv (L : List Fi) : List Int := (List.range 8).map fun id => match fnd L (id : Nat) with
  | some f => (f.tm : Int)
  | none => -1
theorem atv_len (L : List Fi) : (atv L).length = 8 := by simp [atv]
theorem atv_get {L : List Fi} {id : Nat} (h : id < 8) : (atv L)[id]? = some (match fnd L (id : Int) with | some f => (f.tm : Int) | none => -1) := by simp [atv, h]
theorem fnd_cons (f : Fi) (L : List Fi) (k : Int) : fnd (f :: L) k = if (f.id : Int) = k then some f else fnd L k := by
  unfold fnd
  rw [List.find?_cons]
  by_cases h : (f.id : Int) = k
  · simp [h]
  · have hb : ((f.id : Int) == k) = false := by simpa using h
    rw [hb, if_neg h]
theorem atv_tail {f : Fi} {L : List Fi} (hf : f.id < 8) (hn : ∀ g ∈ L, g.id ≠ f.id) : (atv (f :: L)).set f.id (-1) = atv L := by
  apply List.ext_getElem?
  intro j
  rw [List.getElem?_set]
  by_cases hj : f.id = j
  · subst hj
    rw [if_pos rfl, if_pos (by rw [atv_len]; exact hf), atv_get hf]
    have : fnd L (f.id : Int) = none := by
      cases hq : fnd L (f.id : Int) with
      | none => rfl
      | some g => obtain ⟨h1, h2⟩ := fnd_mem hq; exact absurd (by omega) (hn g h1)
    rw [this]
  · rw [if_neg hj]
    by_cases h8 : j < 8
    · rw [atv_get h8, atv_get h8, fnd_cons, if_neg (by omega)]
    · rw [List.getElem?_eq_none (by rw [atv_len]; omega), List.getElem?_eq_none (by rw [atv_len]; omega)]
theorem dueleft {x : Wl} (h : x.Ok) (to : Int) : x.L = dueL x to ++ leftL x to := by
  have hord := h.ord
  unfold dueL leftL
  generalize x.L = L at hord
  induction L with
  | nil => rfl
  | cons f r ih =>
    have h' := List.pairwise_cons.1 hord
    by_cases hf : (f.tm : Int) ≤ to
    · rw [List.filter_cons_of_pos (by simpa using hf), List.filter_cons_of_neg (by simpa using hf), List.cons_append, ← ih h'.2]
    · have hall : ∀ g ∈ f :: r, to < (g.tm : Int) := by
        intro g hg
        rcases List.mem_cons.1 hg with rfl | hg
        · omega
        · have := h'.1 g hg; unfold Fi.lt at this; omega
      rw [List.filter_eq_nil_iff.2 (fun g hg => by have := hall g hg; simp; omega), List.filter_eq_self.2 (fun g hg => by simpa using hall g hg)]
      rfl
theorem ints_set (l : List Int) (i : Nat) (a : Int) : (ints l).set i [I a] = ints (l.set i a) := by unfold ints; rw [List.map_set]
theorem ints_get {l : List Int} {i : Nat} {a : Int} (h : l[i]? = some a) : (ints l)[i]? = some [I a] := by unfold ints; rw [List.getElem?_map, h]; rfl
end
end Go.Abs
namespace Go.Abs
open Go.Proofs
set_option maxRecDepth 100000
set_option linter.unusedVariables false
theorem nodup_sub_len {α : Type} [DecidableEq α] : ∀ {l m : List α}, l.Nodup → (∀ x ∈ l, x ∈ m) → l.length ≤ m.length
  | [], m, _, _ => by simp
  | a :: r, m, hn, hs => by
    have hn' := List.nodup_cons.1 hn
    have ha : a ∈ m := hs a (by simp)
    have := nodup_sub_len (l := r) (m := m.erase a) hn'.2 fun x hx => (List.mem_erase_of_ne (fun e => by subst e; exact hn'.1 hx)).2 (hs x (by simp [hx]))
    have h2 := List.length_erase_of_mem ha
    have : 0 < m.length := List.length_pos_of_mem ha
    simp; omega
theorem undB : EM.P.underlying 4 = some .bool := by kernel_rfl
section
variable {B0 S : AH} {W : List Nat} {own E R : List Own} {ro : List Fct} {Q : Post} {k : AV → AC} {w : Nat} {x : Wl} {blk : List Own}
/-- a new list of numbers, of one's own -/
theorem wp_litsO (H : Cx B0 W S own ro) {n : Nat} {ps : List (Nat × Nat × AV)} (l : List Int) (he : fillP (repZero [I 0] n) ps = some (l.map fun a => I a)) (hn : l.length = n)
    (h : ∀ v S1, Cx B0 W S1 (.sl v 1 (ints l) :: own) ro → wp EM (k v) S1 Q) : wp EM (.op (.bslice 1 n [I 0] ps) k) S Q := by
  refine wp_op (v := .sl S.next 0 n n) (S1 := S.new (.row (l.map fun a => I a))) ?_ (h _ _ (H.addOwn (Grows.new S _) (x := .sl (.sl S.next 0 n n) 1 (ints l)) ?_ ?_))
  · show nBslice 1 n [I 0] ps S = _
    unfold nBslice
    rw [he]
    have e : (Nat.beq (lenL (l.map fun a => I a)) (Nat.mul n 1) && Nat.beq (lenL [I 0]) 1) = true := by
      rw [lenL_eq, List.length_map, hn, show Nat.mul n 1 = n from Nat.mul_one n, Nat.beq_refl]; rfl
    simp only [e]
    rfl
  · refine .inr ⟨S.next, 0, l.map fun a => I a, .inl ⟨n, by rw [ints_len]; omega, by simp [hn], by rw [ints_len, hn]⟩, get_new_same _ _, ?_, ?_⟩
    · rw [ints_len, List.drop_zero, List.take_of_length_le (by simp)]
      unfold ints
      clear he hn h
      induction l with
      | nil => rfl
      | cons a r ih => simp only [List.map_cons, List.flatten_cons, ih]; rfl
    · intro x hx
      obtain ⟨a, _, rfl⟩ := List.mem_map.1 hx
      rfl
  · intro id hid
    simp only [Own.ids, vids, List.mem_singleton] at hid
    subst hid
    exact ⟨Nat.le_refl _, by simp [AH.new]⟩
/-- an element's place stays -/
theorem wp_saddrK {v : AV} {es i : Nat} {L : List (List AV)} {x : List AV} (hs : slOk S v es L) (hi : L[i]? = some x)
    (h : ∀ id off, (∀ S', slOk S' v es L → (Fct.pt id off x).holds S') → wp EM (k (.ptr id off)) S Q) : wp EM (.op (.saddr es v (I (i : Int))) k) S Q := by
  obtain ⟨id, off, h1, h2, h3⟩ := slOk_elem (M := EM) hs hi
  refine wp_op h1 (h id off fun S' hs' => ?_)
  obtain ⟨id', off', h1', h2', h3'⟩ := slOk_elem (M := EM) hs' hi
  have e1 : pur (pSaddr es v (I (i : Int))) S = some (.ptr id off, S) := h1
  have e2 : pur (pSaddr es v (I (i : Int))) S' = some (.ptr id' off', S') := h1'
  unfold pur at e1 e2
  cases hp : pSaddr es v (I (i : Int)) with
  | none => rw [hp] at e1; cases e1
  | some u =>
    rw [hp] at e1 e2
    cases e1
    cases e2
    exact h2'
theorem wp_chkF {id off j : Nat} {cs : List AV} {v : AV} {k : AC} (hp : (Fct.pt id off cs).holds S) (hj : cs[j]? = some v) (hb : AV.beq v v = true) (h : wp EM k S Q) : wp EM (.chk (.load 1 false (.ptr id (Nat.add off j))) v k) S Q := by
  obtain ⟨c, h1, h2⟩ := pt_get hp hj
  have e := e_load1 (M := EM) h1 h2
  refine wp_chk (v' := v) ?_ hb h
  have e2 : pur (rLoad S 1 false (.ptr id (off + j))) S = some (v, S) := e
  show rLoad S 1 false (.ptr id (off + j)) = some v
  unfold pur at e2
  cases hp : rLoad S 1 false (.ptr id (off + j)) with
  | none => rw [hp] at e2; cases e2
  | some u => rw [hp] at e2; cases e2; rfl
theorem fnd_ins {f : Fi} {L : List Fi} {k : Int} : fnd (ins f (rmv f.id L)) k = if (f.id : Int) = k then some f else fnd L k := by
  have h1 : ∀ L : List Fi, (∀ g ∈ L, g.id ≠ f.id) → fnd (ins f L) k = if (f.id : Int) = k then some f else fnd L k := by
    intro L
    induction L with
    | nil => intro _; unfold ins; rw [fnd_cons]
    | cons g r ih =>
      intro hn
      unfold ins
      split
      · rw [fnd_cons]
      · rw [fnd_cons, ih fun g hg => hn g (by simp [hg]), fnd_cons]
        have := hn g (by simp)
        by_cases e1 : (g.id : Int) = k
        · rw [if_pos e1, if_neg (by omega), if_pos e1]
        · rw [if_neg e1, if_neg e1]
  rw [h1 _ fun g hg => (mem_rmv.1 hg).2]
  split
  · rfl
  · next e =>
    clear h1
    induction L with
    | nil => rfl
    | cons g r ih =>
      unfold rmv at ih ⊢
      by_cases hg : g.id = f.id
      · rw [List.filter_cons_of_neg (by simpa using hg), ih, fnd_cons, if_neg (by omega)]
      · rw [List.filter_cons_of_pos (by simpa using hg), fnd_cons, fnd_cons, ih]
theorem fnd_rmv {id : Nat} {L : List Fi} {k : Int} : fnd (rmv id L) k = if (id : Int) = k then none else fnd L k := by
  induction L with
  | nil => unfold rmv fnd; simp
  | cons g r ih =>
    unfold rmv at ih ⊢
    by_cases hg : g.id = id
    · rw [List.filter_cons_of_neg (by simpa using hg), ih, fnd_cons]
      by_cases e : (id : Int) = k
      · rw [if_pos e, if_pos e]
      · rw [if_neg e, if_neg e, if_neg (by omega)]
    · rw [List.filter_cons_of_pos (by simpa using hg), fnd_cons, fnd_cons, ih]
      by_cases e : (id : Int) = k
      · rw [if_pos e, if_pos e, if_neg (by omega)]
      · rw [if_neg e, if_neg e]
theorem atv_put {x : Wl} {id t : Nat} (h : id < 8) : (atv x.L).set id (t : Int) = atv (x.put ⟨id, t⟩).L := by
  apply List.ext_getElem?
  intro j
  rw [List.getElem?_set]
  by_cases h8 : j < 8
  · rw [atv_get h8, atv_get h8]
    have := fnd_ins (f := ⟨id, t⟩) (L := x.L) (k := (j : Int))
    rw [show (x.put ⟨id, t⟩).L = ins ⟨id, t⟩ (rmv id x.L) from rfl, this]
    by_cases e : id = j
    · subst e; rw [if_pos rfl, if_pos (by rw [atv_len]; exact h8), if_pos rfl]
    · rw [if_neg e, if_neg (by show ¬ (id : Int) = j; omega)]
  · have h1 : (atv x.L)[j]? = none := List.getElem?_eq_none (by rw [atv_len]; omega)
    have h2 : (atv (x.put ⟨id, t⟩).L)[j]? = none := List.getElem?_eq_none (by rw [atv_len]; omega)
    rw [h1, h2, if_neg (by omega)]
theorem atv_rmv {x : Wl} {id : Nat} (h : id < 8) : (atv x.L).set id (-1) = atv (rmv id x.L) := by
  apply List.ext_getElem?
  intro j
  rw [List.getElem?_set]
  by_cases h8 : j < 8
  · rw [atv_get h8, atv_get h8, fnd_rmv]
    by_cases e : id = j
    · subst e; rw [if_pos rfl, if_pos (by rw [atv_len]; exact h8), if_pos rfl]
    · rw [if_neg e, if_neg (by omega)]
  · have h1 : (atv x.L)[j]? = none := List.getElem?_eq_none (by rw [atv_len]; omega)
    have h2 : (atv (rmv id x.L))[j]? = none := List.getElem?_eq_none (by rw [atv_len]; omega)
    rw [h1, h2, if_neg (by omega)]
/-- how many of the first ones are set -/
def manyN (L : List Fi) (n : Nat) : Nat := ((List.range n).filter fun id => (fnd L (id : Nat)).isSome).length
theorem manyN_succ (L : List Fi) (n : Nat) : manyN L (n + 1) = manyN L n + if (fnd L (n : Int)).isSome then 1 else 0 := by
  unfold manyN
  rw [List.range_succ, List.filter_append, List.length_append]
  congr 1
  by_cases h : (fnd L (n : Int)).isSome = true
  · rw [if_pos h]; simp [h]
  · rw [if_neg h]; simp [h]
theorem manyN_all {x : Wl} (ho : x.Ok) (h8 : ∀ g ∈ x.L, g.id < 8) : manyN x.L 8 = x.L.length := by
  have h1 : ((List.range 8).filter fun id => (fnd x.L (id : Nat)).isSome).Nodup := List.nodup_range.filter _
  have h2 := ho.nd
  have e1 := nodup_sub_len (m := x.L.map (·.id)) h1 fun i hi => by
    obtain ⟨_, hi⟩ := List.mem_filter.1 hi
    cases hq : fnd x.L (i : Int) with
    | none => rw [hq] at hi; cases hi
    | some g => obtain ⟨q1, q2⟩ := fnd_mem hq; exact List.mem_map.2 ⟨g, q1, by omega⟩
  have e2 := nodup_sub_len (m := (List.range 8).filter fun id => (fnd x.L (id : Nat)).isSome) h2 fun i hi => by
    obtain ⟨g, hg, rfl⟩ := List.mem_map.1 hi
    refine List.mem_filter.2 ⟨List.mem_range.2 (h8 g hg), ?_⟩
    rw [ho.fnd hg]; rfl
  rw [List.length_map] at e1 e2
  unfold manyN
  omega
end
end Go.Abs
