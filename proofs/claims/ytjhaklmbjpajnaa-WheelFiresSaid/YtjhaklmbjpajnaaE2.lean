/- functions of this cut: what they compute, in the abstract machine. Conditions: stated in each theorem -/
import Derived.Test.YtjhaklmbjpajnaaE1
set_option linter.unusedVariables false
set_option linter.unusedSimpArgs false
namespace Go.Abs
open Go.Proofs
set_option maxRecDepth 100000
set_option linter.unusedVariables false
section
variable {B0 S : AH} {W : List Nat} {own E R : List Own} {ro : List Fct} {Q : Post} {k : AV → AC} {w : Nat} {x : Wl} {blk : List Own}
theorem wp_Pick (H : Cx B0 W S own ro) {a n : Int} (hn : n ≤ 9223372036854775807) (h : ∀ S, Cx B0 W S own ro → wp EM (k (I (pick a n))) S Q) : wp EM (.call (.fn (.func 18) [] []) [I a, I n] k) S Q :=
  wp_call (wpC_mono (pick_ok rfl rfl hn) fun r S1 ⟨hr, hs⟩ => by subst hr hs; exact h _ H)
theorem pick_bd {a n : Int} (h : 0 < n) : 0 ≤ pick a n ∧ pick a n < n := by
  unfold pick
  rw [if_neg (by omega)]
  exact ⟨Int.emod_nonneg _ (by omega), Int.emod_lt_of_pos _ h⟩
/-- a time by a number, from a clock on -/
theorem near_ok (H : Cx B0 W S own ro) {now : Nat} {n : Int} (hn : now ≤ 1099511627776) :
    wpC EM (.fn (.func 40) [] []) [I (now : Int), I n] S fun r S' => (∃ t : Nat, r = I (t : Int) ∧ now ≤ t ∧ t ≤ 1099511627776) ∧ Cx B0 W S' own ro := by
  refine wpC_fn (b := Try.a40) rfl rfl ?_
  unfold Try.a40
  refine wp_Pick H (by omega) fun S1 H => ?_
  have hp := pick_bd (a := n) (n := 1048576) (by omega)
  generalize pick n 1048576 = p at hp
  obtain ⟨p, rfl⟩ : ∃ q : Nat, p = (q : Int) := ⟨p.toNat, by omega⟩
  refine wp_lits H [16, 300, 5000, 262144] rfl rfl fun v S2 H => ?_
  refine wp_rem (by omega) ?_
  have e1 : ((p : Int).tmod 4) = ((p % 4 : Nat) : Int) := by rw [show (4 : Int) = ((4 : Nat) : Int) from rfl, Int.ofNat_tmod]
  rw [e1]
  have hlt : p % 4 < 4 := Nat.mod_lt _ (by omega)
  obtain ⟨far, hfar, h1, h2⟩ : ∃ far : Nat, [(16 : Int), 300, 5000, 262144][p % 4]? = some (far : Int) ∧ 1 ≤ far ∧ far ≤ 262144 := by
    have : p % 4 = 0 ∨ p % 4 = 1 ∨ p % 4 = 2 ∨ p % 4 = 3 := by omega
    rcases this with e | e | e | e <;> rw [e]
    · exact ⟨16, rfl, by omega, by omega⟩
    · exact ⟨300, rfl, by omega, by omega⟩
    · exact ⟨5000, rfl, by omega, by omega⟩
    · exact ⟨262144, rfl, by omega, by omega⟩
  refine wp_saddr (i := p % 4) (x := [I (far : Int)]) H (by repeat (first | exact List.Mem.head _ | apply List.Mem.tail)) (by unfold ints; rw [List.getElem?_map, hfar]; rfl) fun q qo H1 => ?_
  refine wp_load0 H1 (by repeat (first | exact List.Mem.head _ | apply List.Mem.tail)) rfl ?_
  have e2 : ((p : Int).tdiv 4) = ((p / 4 : Nat) : Int) := by rw [show (4 : Int) = ((4 : Nat) : Int) from rfl, Int.ofNat_tdiv]
  refine wp_quo (c := ((p / 4 : Nat) : Int)) (by omega) (by rw [e2, wrap64 (by omega) (by omega)]) ?_
  try unfold Try.a40x0
  refine wp_rem (by omega) ?_
  have e3 : (((p / 4 : Nat) : Int).tmod (far : Int)) = ((p / 4 % far : Nat) : Int) := by rw [Int.ofNat_tmod]
  rw [e3]
  have hm : p / 4 % far < far := Nat.mod_lt _ (by omega)
  refine wp_add64 (by omega) (by omega) ?_
  refine Tsk.wp_min ?_
  refine wp_ret ⟨rfl, ⟨min 1099511627776 (now + p / 4 % far), ?_, by omega, by omega⟩, H1.tl.tl⟩
  show I _ = I _
  congr 2
  omega
/-- of 8 timers, when each is due (-1: it is not set) -/
def atv (L : List Fi) : List Int := (List.range 8).map fun id => match fnd L (id : Nat) with
  | some f => (f.tm : Int)
  | none => -1
theorem atv_len (L : List Fi) : (atv L).length = 8 := by simp [atv]
theorem atv_get {L : List Fi} {id : Nat} (h : id < 8) : (atv L)[id]? = some (match fnd L (id : Int) with | some f => (f.tm : Int) | none => -1) := by simp [atv, h]
theorem fnd_cons (f : Fi) (L : List Fi) (k : Int) : fnd (f :: L) k = if (f.id : Int) = k then some f else fnd L k := by
  unfold fnd
  rw [List.find?_cons]
  by_cases h : (f.id : Int) = k
  · simp [h]
  · have hb : ((f.id : Int) == k) = false := by simpa using h
    rw [hb, if_neg h]
theorem atv_tail {f : Fi} {L : List Fi} (hf : f.id < 8) (hn : ∀ g ∈ L, g.id ≠ f.id) : (atv (f :: L)).set f.id (-1) = atv L := by
  apply List.ext_getElem?
  intro j
  rw [List.getElem?_set]
  by_cases hj : f.id = j
  · subst hj
    rw [if_pos rfl, if_pos (by rw [atv_len]; exact hf), atv_get hf]
    have : fnd L (f.id : Int) = none := by
      cases hq : fnd L (f.id : Int) with
      | none => rfl
      | some g => obtain ⟨h1, h2⟩ := fnd_mem hq; exact absurd (by omega) (hn g h1)
    rw [this]
  · rw [if_neg hj]
    by_cases h8 : j < 8
    · rw [atv_get h8, atv_get h8, fnd_cons, if_neg (by omega)]
    · rw [List.getElem?_eq_none (by rw [atv_len]; omega), List.getElem?_eq_none (by rw [atv_len]; omega)]
theorem dueleft {x : Wl} (h : x.Ok) (to : Int) : x.L = dueL x to ++ leftL x to := by
  have hord := h.ord
  unfold dueL leftL
  generalize x.L = L at hord
  induction L with
  | nil => rfl
  | cons f r ih =>
    have h' := List.pairwise_cons.1 hord
    by_cases hf : (f.tm : Int) ≤ to
    · rw [List.filter_cons_of_pos (by simpa using hf), List.filter_cons_of_neg (by simpa using hf), List.cons_append, ← ih h'.2]
    · have hall : ∀ g ∈ f :: r, to < (g.tm : Int) := by
        intro g hg
        rcases List.mem_cons.1 hg with rfl | hg
        · omega
        · have := h'.1 g hg; unfold Fi.lt at this; omega
      rw [List.filter_eq_nil_iff.2 (fun g hg => by have := hall g hg; simp; omega), List.filter_eq_self.2 (fun g hg => by simpa using hall g hg)]
      rfl
theorem ints_set (l : List Int) (i : Nat) (a : Int) : (ints l).set i [I a] = ints (l.set i a) := by unfold ints; rw [List.map_set]
theorem ints_get {l : List Int} {i : Nat} {a : Int} (h : l[i]? = some a) : (ints l)[i]? = some [I a] := by unfold ints; rw [List.getElem?_map, h]; rfl
/-- are just those told that are due? -/
theorem dueC_ok {f at' : AV} {to : Int} {nf na : Nat} (ho : x.Ok) (h8 : ∀ g ∈ x.L, g.id < 8) (H : Cx B0 W S own ro) (hf : own[nf]? = some (.sl f 2 (fis (dueL x to)))) (ha : own[na]? = some (.sl at' 1 (ints (atv x.L)))) (hne : na ≠ nf) :
    wpC EM (.fn (.func 41) [] []) [f, at', I to] S fun r S' => r = B true ∧ Cx B0 W S' (own.set na (.sl at' 1 (ints (atv (leftL x to))))) ro := by
  refine wpC_fn (b := Try.a41) rfl rfl ?_
  unfold Try.a41
  have hsplit := dueleft ho to
  have hnd := ho.nd
  have hord := ho.ord
  have hlen := ho.len
  have hD : ∀ g ∈ dueL x to, (g.tm : Int) ≤ to := fun g hg => by have := (List.mem_filter.1 hg).2; simpa using this
  have hDl : (dueL x to).length ≤ 256 := by
    have := List.length_filter_le (fun f : Fi => decide ((f.tm : Int) ≤ to)) x.L
    unfold dueL; omega
  have hLf : ∀ g ∈ leftL x to, to < (g.tm : Int) := fun g hg => by have := (List.mem_filter.1 hg).2; simpa using this
  have hna : na < own.length := (List.getElem?_eq_some_iff.1 ha).1
  generalize dueL x to = D at hf hsplit hD hDl
  generalize leftL x to = L2 at hsplit hLf ⊢
  refine wp_bind (wp_loop (wpL_inv (fun m vs S1 => ∃ (i : Nat) (u : AV), vs = [I (i : Int), u] ∧ i ≤ D.length ∧ m = D.length - i ∧ Cx B0 W S1 (own.set na (.sl at' 1 (ints (atv (x.L.drop i))))) ro ∧ (i = D.length → True)) ?_ D.length ⟨0, _, rfl, by omega, by omega, ?_, fun _ => trivial⟩))
  · rintro m vs S1 ⟨i, u, rfl, hi, rfl, H, _⟩
    have hf1 : ∀ y, (own.set na y)[nf]? = some (.sl f 2 (fis D)) := fun y => by rw [List.getElem?_set, if_neg hne]; exact hf
    have ha1 : ∀ y, (own.set na y)[na]? = some y := fun y => by rw [List.getElem?_set]; simp [hna]
    try unfold Try.a41x16
    refine wp_leno H nf (hf1 _) ?_
    rw [fis_len]
    refine wp_lss (fun hlt => ?_) (fun hge => ?_)
    · have hlt : i < D.length := by omega
      have hxi : x.L.drop i = D[i] :: x.L.drop (i + 1) := by
        have hl : i < x.L.length := by rw [hsplit]; simp; omega
        rw [List.drop_eq_getElem_cons hl]
        congr 1
        simp only [hsplit, List.getElem_append_left hlt]
      have hmem : D[i] ∈ x.L := by rw [hsplit]; exact List.mem_append_left _ (List.getElem_mem hlt)
      have hid := h8 _ hmem
      have hle := hD _ (List.getElem_mem hlt)
      have htm := ho.le _ hmem
      have hget : (atv (x.L.drop i))[D[i].id]? = some (D[i].tm : Int) := by
        rw [atv_get hid, hxi, fnd_cons, if_pos rfl]
      have hnin : ∀ g ∈ x.L.drop (i + 1), g.id ≠ D[i].id := by
        have hnd2 : ((x.L.drop i).map (·.id)).Nodup := hnd.sublist ((List.drop_sublist _ _).map _)
        rw [hxi] at hnd2
        simp only [List.map_cons, List.nodup_cons] at hnd2
        exact fun g hg e => hnd2.1 (e ▸ List.mem_map.2 ⟨g, hg, rfl⟩)
      repeat (first|refine zA ?_|refine zB rfl ?_|refine zC ?_|refine zD ?_|refine zE rfl ?_|refine zF ?_|refine zG ?_|refine zH ?_|refine zI ?_|refine zJ ?_|refine zK ?_|refine zL rfl ?_|refine zN rfl ?_)
      refine wp_bind ?_
      try unfold Try.a41x14
      refine wp_saddro (i := i) H nf (hf1 _) (fis_get hlt) fun q1 o1 h1 => ?_
      repeat (first|refine zA ?_|refine zB rfl ?_|refine zC ?_|refine zD ?_|refine zE rfl ?_|refine zF ?_|refine zG ?_|refine zH ?_|refine zI ?_|refine zJ ?_|refine zK ?_|refine zL rfl ?_|refine zN rfl ?_)
      refine wp_loadF (j := 0) (cs := D[i].cs) h1 rfl ?_
      refine wp_lss_f (by omega) ?_
      repeat (first|refine zA ?_|refine zB rfl ?_|refine zC ?_|refine zD ?_|refine zE rfl ?_|refine zF ?_|refine zG ?_|refine zH ?_|refine zI ?_|refine zJ ?_|refine zK ?_|refine zL rfl ?_|refine zN rfl ?_)
      try unfold Try.a41x13
      repeat (first|refine zA ?_|refine zB rfl ?_|refine zC ?_|refine zD ?_|refine zE rfl ?_|refine zF ?_|refine zG ?_|refine zH ?_|refine zI ?_|refine zJ ?_|refine zK ?_|refine zL rfl ?_|refine zN rfl ?_)
      refine wp_saddro (i := i) H nf (hf1 _) (fis_get hlt) fun q1 o1 h1 => ?_
      repeat (first|refine zA ?_|refine zB rfl ?_|refine zC ?_|refine zD ?_|refine zE rfl ?_|refine zF ?_|refine zG ?_|refine zH ?_|refine zI ?_|refine zJ ?_|refine zK ?_|refine zL rfl ?_|refine zN rfl ?_)
      refine wp_loadF (j := 0) (cs := D[i].cs) h1 rfl ?_
      repeat (first|refine zA ?_|refine zB rfl ?_|refine zC ?_|refine zD ?_|refine zE rfl ?_|refine zF ?_|refine zG ?_|refine zH ?_|refine zI ?_|refine zJ ?_|refine zK ?_|refine zL rfl ?_|refine zN rfl ?_)
      refine wp_leno H na (ha1 _) ?_
      rw [ints_len, atv_len]
      repeat (first|refine zA ?_|refine zB rfl ?_|refine zC ?_|refine zD ?_|refine zE rfl ?_|refine zF ?_|refine zG ?_|refine zH ?_|refine zI ?_|refine zJ ?_|refine zK ?_|refine zL rfl ?_|refine zN rfl ?_)
      refine wp_geq_f (by omega) ?_
      try unfold Try.a41x12
      repeat (first|refine zA ?_|refine zB rfl ?_|refine zC ?_|refine zD ?_|refine zE rfl ?_|refine zF ?_|refine zG ?_|refine zH ?_|refine zI ?_|refine zJ ?_|refine zK ?_|refine zL rfl ?_|refine zN rfl ?_)
      refine wp_saddro (i := i) H nf (hf1 _) (fis_get hlt) fun q1 o1 h1 => ?_
      repeat (first|refine zA ?_|refine zB rfl ?_|refine zC ?_|refine zD ?_|refine zE rfl ?_|refine zF ?_|refine zG ?_|refine zH ?_|refine zI ?_|refine zJ ?_|refine zK ?_|refine zL rfl ?_|refine zN rfl ?_)
      try unfold Try.a41x11
      repeat (first|refine zA ?_|refine zB rfl ?_|refine zC ?_|refine zD ?_|refine zE rfl ?_|refine zF ?_|refine zG ?_|refine zH ?_|refine zI ?_|refine zJ ?_|refine zK ?_|refine zL rfl ?_|refine zN rfl ?_)
      refine wp_loadF (j := 0) (cs := D[i].cs) h1 rfl ?_
      repeat (first|refine zA ?_|refine zB rfl ?_|refine zC ?_|refine zD ?_|refine zE rfl ?_|refine zF ?_|refine zG ?_|refine zH ?_|refine zI ?_|refine zJ ?_|refine zK ?_|refine zL rfl ?_|refine zN rfl ?_)
      refine wp_saddro (i := D[i].id) H na (ha1 _) (ints_get hget) fun q1 o1 h1 => ?_
      repeat (first|refine zA ?_|refine zB rfl ?_|refine zC ?_|refine zD ?_|refine zE rfl ?_|refine zF ?_|refine zG ?_|refine zH ?_|refine zI ?_|refine zJ ?_|refine zK ?_|refine zL rfl ?_|refine zN rfl ?_)
      refine wp_loadF (j := 0) (cs := [I (D[i].tm : Int)]) h1 rfl ?_
      repeat (first|refine zA ?_|refine zB rfl ?_|refine zC ?_|refine zD ?_|refine zE rfl ?_|refine zF ?_|refine zG ?_|refine zH ?_|refine zI ?_|refine zJ ?_|refine zK ?_|refine zL rfl ?_|refine zN rfl ?_)
      refine wp_saddro (i := i) H nf (hf1 _) (fis_get hlt) fun q1 o1 h1 => ?_
      try unfold Try.a41x10
      repeat (first|refine zA ?_|refine zB rfl ?_|refine zC ?_|refine zD ?_|refine zE rfl ?_|refine zF ?_|refine zG ?_|refine zH ?_|refine zI ?_|refine zJ ?_|refine zK ?_|refine zL rfl ?_|refine zN rfl ?_)
      refine wp_loadF (j := 1) (cs := D[i].cs) h1 rfl ?_
      repeat (first|refine zA ?_|refine zB rfl ?_|refine zC ?_|refine zD ?_|refine zE rfl ?_|refine zF ?_|refine zG ?_|refine zH ?_|refine zI ?_|refine zJ ?_|refine zK ?_|refine zL rfl ?_|refine zN rfl ?_)
      refine wp_neq_f rfl ?_
      repeat (first|refine zA ?_|refine zB rfl ?_|refine zC ?_|refine zD ?_|refine zE rfl ?_|refine zF ?_|refine zG ?_|refine zH ?_|refine zI ?_|refine zJ ?_|refine zK ?_|refine zL rfl ?_|refine zN rfl ?_)
      try unfold Try.a41x9
      repeat (first|refine zA ?_|refine zB rfl ?_|refine zC ?_|refine zD ?_|refine zE rfl ?_|refine zF ?_|refine zG ?_|refine zH ?_|refine zI ?_|refine zJ ?_|refine zK ?_|refine zL rfl ?_|refine zN rfl ?_)
      refine wp_saddro (i := i) H nf (hf1 _) (fis_get hlt) fun q1 o1 h1 => ?_
      repeat (first|refine zA ?_|refine zB rfl ?_|refine zC ?_|refine zD ?_|refine zE rfl ?_|refine zF ?_|refine zG ?_|refine zH ?_|refine zI ?_|refine zJ ?_|refine zK ?_|refine zL rfl ?_|refine zN rfl ?_)
      refine wp_loadF (j := 1) (cs := D[i].cs) h1 rfl ?_
      repeat (first|refine zA ?_|refine zB rfl ?_|refine zC ?_|refine zD ?_|refine zE rfl ?_|refine zF ?_|refine zG ?_|refine zH ?_|refine zI ?_|refine zJ ?_|refine zK ?_|refine zL rfl ?_|refine zN rfl ?_)
      refine wp_gtr_f hle ?_
      repeat (first|refine zA ?_|refine zB rfl ?_|refine zC ?_|refine zD ?_|refine zE rfl ?_|refine zF ?_|refine zG ?_|refine zH ?_|refine zI ?_|refine zJ ?_|refine zK ?_|refine zL rfl ?_|refine zN rfl ?_)
      try unfold Try.a41x8
      have last : ∀ (Q : Post), (∀ u S2, Cx B0 W S2 (own.set na (.sl at' 1 (ints (atv (x.L.drop (i + 1)))))) ro → Q .normal [u] S2) → wp EM (.op (.saddr 2 f (I (i : Int))) fun v85 => Try.a41x0 [f, at', I to] [I (i : Int), u] v85) S1 Q := by
        intro Q hq
        refine wp_saddro (i := i) H nf (hf1 _) (fis_get hlt) fun q1 o1 h1 => ?_
        unfold Try.a41x0
        repeat (first|refine zA ?_|refine zB rfl ?_|refine zC ?_|refine zD ?_|refine zE rfl ?_|refine zF ?_|refine zG ?_|refine zH ?_|refine zI ?_|refine zJ ?_|refine zK ?_|refine zL rfl ?_|refine zN rfl ?_)
        refine wp_loadF (j := 0) (cs := D[i].cs) h1 rfl ?_
        refine wp_storeE (i := D[i].id) (y := I (-1)) H na (ha1 _) (by rw [ints_len, atv_len]; exact hid) rfl rfl fun S2 H2 => ?_
        refine wp_ret (hq _ _ ?_)
        have e1 : (ints (atv (x.L.drop i))).set D[i].id (I (-1)).cells = ints (atv (x.L.drop (i + 1))) := by
          have := ints_set (atv (x.L.drop i)) D[i].id (-1)
          rw [hxi] at this ⊢
          rw [atv_tail hid hnin] at this
          exact this
        have H3 : Cx B0 W S2 ((own.set na (.sl at' 1 (ints (atv (x.L.drop i))))).set na (.sl at' 1 ((ints (atv (x.L.drop i))).set D[i].id (I (-1)).cells))) ro := H2
        rw [List.set_set, e1] at H3
        exact H3
      have nextR : ∀ u S2, Cx B0 W S2 (own.set na (.sl at' 1 (ints (atv (x.L.drop (i + 1)))))) ro → wp EM (Try.a41x15 [I (i : Int), u] [u]) S2 fun t vs1 S1 => (t = .normal ∧ ∃ m', m' < D.length - i ∧ ∃ (i : Nat) (u : AV), vs1 = [I (i : Int), u] ∧ i ≤ D.length ∧ m' = D.length - i ∧ Cx B0 W S1 (own.set na (.sl at' 1 (ints (atv (x.L.drop i))))) ro ∧ (i = D.length → True)) ∨ (t ≠ .normal ∧ False) := by
        intro u S2 H2
        unfold Try.a41x15
        exact wp_add64 (by omega) (by omega) (wp_ret (.inl ⟨rfl, D.length - (i + 1), by omega, i + 1, _, rfl, by omega, rfl, H2, fun _ => trivial⟩))
      have goOn : ∀ u' S2, Cx B0 W S2 (own.set na (.sl at' 1 (ints (atv (x.L.drop (i + 1)))))) ro → wp EM (Try.a41x15 [I (i : Int), u] [u']) S2 fun t vs1 S1 => (t = .normal ∧ ∃ m', m' < D.length - i ∧ ∃ (i : Nat) (u : AV), vs1 = [I (i : Int), u] ∧ i ≤ D.length ∧ m' = D.length - i ∧ Cx B0 W S1 (own.set na (.sl at' 1 (ints (atv (x.L.drop i))))) ro ∧ (i = D.length → True)) ∨ (t ≠ .normal ∧ False) := by
        intro u' S2 H2
        unfold Try.a41x15
        exact wp_add64 (by omega) (by omega) (wp_ret (.inl ⟨rfl, D.length - (i + 1), by omega, i + 1, _, rfl, by omega, rfl, H2, fun _ => trivial⟩))
      refine wp_gtr (fun hpos => ?_) (fun h0 => ?_)
      · have hpos : 0 < i := by omega
        have hpm : i - 1 < D.length := by omega
        have hordD : Ord D := by rw [hsplit] at hord; exact (List.pairwise_append.1 hord).1
        have hlt2 : (D[i - 1]).lt D[i] := ord_get hordD (by omega) hlt
        have e1 : ((i : Int) - 1) = ((i - 1 : Nat) : Int) := by omega
        repeat (first|refine zA ?_|refine zB rfl ?_|refine zC ?_|refine zD ?_|refine zE rfl ?_|refine zF ?_|refine zG ?_|refine zH ?_|refine zI ?_|refine zJ ?_|refine zK ?_|refine zL rfl ?_|refine zN rfl ?_)
        refine wp_sub (c := ((i - 1 : Nat) : Int)) (by rw [wrap64 (by omega) (by omega)]; exact e1) ?_
        repeat (first|refine zA ?_|refine zB rfl ?_|refine zC ?_|refine zD ?_|refine zE rfl ?_|refine zF ?_|refine zG ?_|refine zH ?_|refine zI ?_|refine zJ ?_|refine zK ?_|refine zL rfl ?_|refine zN rfl ?_)
        try unfold Try.a41x7
        repeat (first|refine zA ?_|refine zB rfl ?_|refine zC ?_|refine zD ?_|refine zE rfl ?_|refine zF ?_|refine zG ?_|refine zH ?_|refine zI ?_|refine zJ ?_|refine zK ?_|refine zL rfl ?_|refine zN rfl ?_)
        refine wp_saddro (i := i - 1) H nf (hf1 _) (fis_get hpm) fun q1 o1 h1 => ?_
        repeat (first|refine zA ?_|refine zB rfl ?_|refine zC ?_|refine zD ?_|refine zE rfl ?_|refine zF ?_|refine zG ?_|refine zH ?_|refine zI ?_|refine zJ ?_|refine zK ?_|refine zL rfl ?_|refine zN rfl ?_)
        refine wp_loadF (j := 1) (cs := D[i - 1].cs) h1 rfl ?_
        repeat (first|refine zA ?_|refine zB rfl ?_|refine zC ?_|refine zD ?_|refine zE rfl ?_|refine zF ?_|refine zG ?_|refine zH ?_|refine zI ?_|refine zJ ?_|refine zK ?_|refine zL rfl ?_|refine zN rfl ?_)
        refine wp_saddro (i := i) H nf (hf1 _) (fis_get hlt) fun q1 o1 h1 => ?_
        try unfold Try.a41x6
        repeat (first|refine zA ?_|refine zB rfl ?_|refine zC ?_|refine zD ?_|refine zE rfl ?_|refine zF ?_|refine zG ?_|refine zH ?_|refine zI ?_|refine zJ ?_|refine zK ?_|refine zL rfl ?_|refine zN rfl ?_)
        refine wp_loadF (j := 1) (cs := D[i].cs) h1 rfl ?_
        repeat (first|refine zA ?_|refine zB rfl ?_|refine zC ?_|refine zD ?_|refine zE rfl ?_|refine zF ?_|refine zG ?_|refine zH ?_|refine zI ?_|refine zJ ?_|refine zK ?_|refine zL rfl ?_|refine zN rfl ?_)
        refine wp_gtr_f (by unfold Fi.lt at hlt2; omega) ?_
        repeat (first|refine zA ?_|refine zB rfl ?_|refine zC ?_|refine zD ?_|refine zE rfl ?_|refine zF ?_|refine zG ?_|refine zH ?_|refine zI ?_|refine zJ ?_|refine zK ?_|refine zL rfl ?_|refine zN rfl ?_)
        try unfold Try.a41x5
        repeat (first|refine zA ?_|refine zB rfl ?_|refine zC ?_|refine zD ?_|refine zE rfl ?_|refine zF ?_|refine zG ?_|refine zH ?_|refine zI ?_|refine zJ ?_|refine zK ?_|refine zL rfl ?_|refine zN rfl ?_)
        refine wp_sub (c := ((i - 1 : Nat) : Int)) (by rw [wrap64 (by omega) (by omega)]; exact e1) ?_
        repeat (first|refine zA ?_|refine zB rfl ?_|refine zC ?_|refine zD ?_|refine zE rfl ?_|refine zF ?_|refine zG ?_|refine zH ?_|refine zI ?_|refine zJ ?_|refine zK ?_|refine zL rfl ?_|refine zN rfl ?_)
        refine wp_saddro (i := i - 1) H nf (hf1 _) (fis_get hpm) fun q1 o1 h1 => ?_
        repeat (first|refine zA ?_|refine zB rfl ?_|refine zC ?_|refine zD ?_|refine zE rfl ?_|refine zF ?_|refine zG ?_|refine zH ?_|refine zI ?_|refine zJ ?_|refine zK ?_|refine zL rfl ?_|refine zN rfl ?_)
        refine wp_loadF (j := 1) (cs := D[i - 1].cs) h1 rfl ?_
        repeat (first|refine zA ?_|refine zB rfl ?_|refine zC ?_|refine zD ?_|refine zE rfl ?_|refine zF ?_|refine zG ?_|refine zH ?_|refine zI ?_|refine zJ ?_|refine zK ?_|refine zL rfl ?_|refine zN rfl ?_)
        try unfold Try.a41x4
        repeat (first|refine zA ?_|refine zB rfl ?_|refine zC ?_|refine zD ?_|refine zE rfl ?_|refine zF ?_|refine zG ?_|refine zH ?_|refine zI ?_|refine zJ ?_|refine zK ?_|refine zL rfl ?_|refine zN rfl ?_)
        refine wp_saddro (i := i) H nf (hf1 _) (fis_get hlt) fun q1 o1 h1 => ?_
        repeat (first|refine zA ?_|refine zB rfl ?_|refine zC ?_|refine zD ?_|refine zE rfl ?_|refine zF ?_|refine zG ?_|refine zH ?_|refine zI ?_|refine zJ ?_|refine zK ?_|refine zL rfl ?_|refine zN rfl ?_)
        refine wp_loadF (j := 1) (cs := D[i].cs) h1 rfl ?_
        repeat (first|refine zA ?_|refine zB rfl ?_|refine zC ?_|refine zD ?_|refine zE rfl ?_|refine zF ?_|refine zG ?_|refine zH ?_|refine zI ?_|refine zJ ?_|refine zK ?_|refine zL rfl ?_|refine zN rfl ?_)
        refine wp_eql (fun heq => ?_) (fun hneq => ?_)
        · repeat (first|refine zA ?_|refine zB rfl ?_|refine zC ?_|refine zD ?_|refine zE rfl ?_|refine zF ?_|refine zG ?_|refine zH ?_|refine zI ?_|refine zJ ?_|refine zK ?_|refine zL rfl ?_|refine zN rfl ?_)
          try unfold Try.a41x3
          repeat (first|refine zA ?_|refine zB rfl ?_|refine zC ?_|refine zD ?_|refine zE rfl ?_|refine zF ?_|refine zG ?_|refine zH ?_|refine zI ?_|refine zJ ?_|refine zK ?_|refine zL rfl ?_|refine zN rfl ?_)
          refine wp_sub (c := ((i - 1 : Nat) : Int)) (by rw [wrap64 (by omega) (by omega)]; exact e1) ?_
          repeat (first|refine zA ?_|refine zB rfl ?_|refine zC ?_|refine zD ?_|refine zE rfl ?_|refine zF ?_|refine zG ?_|refine zH ?_|refine zI ?_|refine zJ ?_|refine zK ?_|refine zL rfl ?_|refine zN rfl ?_)
          refine wp_saddro (i := i - 1) H nf (hf1 _) (fis_get hpm) fun q1 o1 h1 => ?_
          repeat (first|refine zA ?_|refine zB rfl ?_|refine zC ?_|refine zD ?_|refine zE rfl ?_|refine zF ?_|refine zG ?_|refine zH ?_|refine zI ?_|refine zJ ?_|refine zK ?_|refine zL rfl ?_|refine zN rfl ?_)
          refine wp_loadF (j := 0) (cs := D[i - 1].cs) h1 rfl ?_
          repeat (first|refine zA ?_|refine zB rfl ?_|refine zC ?_|refine zD ?_|refine zE rfl ?_|refine zF ?_|refine zG ?_|refine zH ?_|refine zI ?_|refine zJ ?_|refine zK ?_|refine zL rfl ?_|refine zN rfl ?_)
          try unfold Try.a41x2
          repeat (first|refine zA ?_|refine zB rfl ?_|refine zC ?_|refine zD ?_|refine zE rfl ?_|refine zF ?_|refine zG ?_|refine zH ?_|refine zI ?_|refine zJ ?_|refine zK ?_|refine zL rfl ?_|refine zN rfl ?_)
          refine wp_saddro (i := i) H nf (hf1 _) (fis_get hlt) fun q1 o1 h1 => ?_
          repeat (first|refine zA ?_|refine zB rfl ?_|refine zC ?_|refine zD ?_|refine zE rfl ?_|refine zF ?_|refine zG ?_|refine zH ?_|refine zI ?_|refine zJ ?_|refine zK ?_|refine zL rfl ?_|refine zN rfl ?_)
          refine wp_loadF (j := 0) (cs := D[i].cs) h1 rfl ?_
          repeat (first|refine zA ?_|refine zB rfl ?_|refine zC ?_|refine zD ?_|refine zE rfl ?_|refine zF ?_|refine zG ?_|refine zH ?_|refine zI ?_|refine zJ ?_|refine zK ?_|refine zL rfl ?_|refine zN rfl ?_)
          refine wp_geq_f (by unfold Fi.lt at hlt2; omega) ?_
          repeat (first|refine zA ?_|refine zB rfl ?_|refine zC ?_|refine zD ?_|refine zE rfl ?_|refine zF ?_|refine zG ?_|refine zH ?_|refine zI ?_|refine zJ ?_|refine zK ?_|refine zL rfl ?_|refine zN rfl ?_)
          try unfold Try.a41x1
          repeat (first|refine zA ?_|refine zB rfl ?_|refine zC ?_|refine zD ?_|refine zE rfl ?_|refine zF ?_|refine zG ?_|refine zH ?_|refine zI ?_|refine zJ ?_|refine zK ?_|refine zL rfl ?_|refine zN rfl ?_)
          exact last _ fun u S2 H2 => by
            show wp EM _ _ _
            refine wp_mono (goOn u S2 H2) fun t vs1 S3 q => ?_
            rcases q with q | ⟨_, q⟩
            · exact .inl q
            · cases q
        · repeat (first|refine zA ?_|refine zB rfl ?_|refine zC ?_|refine zD ?_|refine zE rfl ?_|refine zF ?_|refine zG ?_|refine zH ?_|refine zI ?_|refine zJ ?_|refine zK ?_|refine zL rfl ?_|refine zN rfl ?_)
          try unfold Try.a41x3 Try.a41x2
          repeat (first|refine zA ?_|refine zB rfl ?_|refine zC ?_|refine zD ?_|refine zE rfl ?_|refine zF ?_|refine zG ?_|refine zH ?_|refine zI ?_|refine zJ ?_|refine zK ?_|refine zL rfl ?_|refine zN rfl ?_)
          try unfold Try.a41x1
          repeat (first|refine zA ?_|refine zB rfl ?_|refine zC ?_|refine zD ?_|refine zE rfl ?_|refine zF ?_|refine zG ?_|refine zH ?_|refine zI ?_|refine zJ ?_|refine zK ?_|refine zL rfl ?_|refine zN rfl ?_)
          exact last _ fun u S2 H2 => by
            show wp EM _ _ _
            refine wp_mono (goOn u S2 H2) fun t vs1 S3 q => ?_
            rcases q with q | ⟨_, q⟩
            · exact .inl q
            · cases q
      · repeat (first|refine zA ?_|refine zB rfl ?_|refine zC ?_|refine zD ?_|refine zE rfl ?_|refine zF ?_|refine zG ?_|refine zH ?_|refine zI ?_|refine zJ ?_|refine zK ?_|refine zL rfl ?_|refine zN rfl ?_)
        try unfold Try.a41x7 Try.a41x6 Try.a41x5 Try.a41x4 Try.a41x3 Try.a41x2 Try.a41x1
        repeat (first|refine zA ?_|refine zB rfl ?_|refine zC ?_|refine zD ?_|refine zE rfl ?_|refine zF ?_|refine zG ?_|refine zH ?_|refine zI ?_|refine zJ ?_|refine zK ?_|refine zL rfl ?_|refine zN rfl ?_)
        exact last _ fun u S2 H2 => by
          show wp EM _ _ _
          refine wp_mono (goOn u S2 H2) fun t vs1 S3 q => ?_
          rcases q with q | ⟨_, q⟩
          · exact .inl q
          · cases q
    · have : i = D.length := by omega
      subst this
      have hdrop : x.L.drop D.length = L2 := by rw [hsplit, List.drop_left]
      rw [hdrop] at H
      repeat (first|refine zA ?_|refine zB rfl ?_|refine zC ?_|refine zD ?_|refine zE rfl ?_|refine zF ?_|refine zG ?_|refine zH ?_|refine zI ?_|refine zJ ?_|refine zK ?_|refine zL rfl ?_|refine zN rfl ?_)
      refine wp_ret (.inr ⟨by simp, ?_⟩)
      show wp EM _ _ _
      refine wp_bind ?_
      try unfold Try.a41x20
      refine wp_loop (wpL_inv (fun m vs S1 => ∃ (i : Nat) (u : AV), vs = [I (i : Int), u] ∧ i ≤ 8 ∧ m = 8 - i ∧ Cx B0 W S1 (own.set na (.sl at' 1 (ints (atv L2)))) ro) ?_ 8 ⟨0, _, rfl, by omega, by omega, H⟩)
      rintro m vs S2 ⟨i, u2, rfl, hi8, rfl, H⟩
      refine wp_leno H na (ha1 _) ?_
      rw [ints_len, atv_len]
      refine wp_lss (fun hlt => ?_) (fun hge => ?_)
      · have hlt : i < 8 := by omega
        repeat (first|refine zA ?_|refine zB rfl ?_|refine zC ?_|refine zD ?_|refine zE rfl ?_|refine zF ?_|refine zG ?_|refine zH ?_|refine zI ?_|refine zJ ?_|refine zK ?_|refine zL rfl ?_|refine zN rfl ?_)
        try unfold Try.a41x19
        refine wp_bind ?_
        obtain ⟨a, hga, hav⟩ : ∃ a : Int, (atv L2)[i]? = some a ∧ (a = -1 ∨ to < a) := by
          refine ⟨_, atv_get hlt, ?_⟩
          cases hq : fnd L2 (i : Int) with
          | none => exact .inl rfl
          | some g => exact .inr (hLf g (fnd_mem hq).1)
        refine wp_saddro (i := i) H na (ha1 _) (ints_get hga) fun q1 o1 h1 => ?_
        refine wp_loadF (j := 0) (cs := [I a]) h1 rfl ?_
        have nxt : wp EM (.ret .normal [u2]) S2 (boundTo EM (some 3) (fun v5 => .op (.bin .add (I (i : Int)) (I 1)) fun v6 => .ret .normal [v6, (nth v5 0)]) (fun v5 => [(I (i : Int)), (nth v5 0)]) fun t vs1 S3 => (t = .normal ∧ ∃ m', m' < 8 - i ∧ ∃ (i : Nat) (u : AV), vs1 = [I (i : Int), u] ∧ i ≤ 8 ∧ m' = 8 - i ∧ Cx B0 W S3 (own.set na (.sl at' 1 (ints (atv L2)))) ro) ∨ (t ≠ .normal ∧ False)) := by
          refine wp_ret ?_
          show wp EM _ _ _
          exact wp_add64 (by omega) (by omega) (wp_ret (.inl ⟨rfl, 8 - (i + 1), by omega, i + 1, _, rfl, by omega, rfl, H⟩))
        have nxt' := wp_mono (Q' := boundTo EM (some 3) (fun v5 => .op (.bin .add (I (i : Int)) (I 1)) fun v6 => .ret .normal [v6, (nth v5 0)]) (fun v5 => [(I (i : Int)), (nth v5 0)]) fun t vs1 S3 => (t = .normal ∧ ∃ m', m' < 8 - i ∧ ∃ (i : Nat) (u : AV), vs1 = [I (i : Int), u] ∧ i ≤ 8 ∧ m' = 8 - i ∧ Cx B0 W S3 (own.set na (.sl at' 1 (ints (atv L2)))) ro) ∨ (t ≠ .normal ∧ boundTo EM (some 2) (fun v2 => .ret .ret [(B true)]) (fun v2 => [(nth v2 1)]) (fun t vs S' => t = .ret ∧ oneOf vs = B true ∧ Cx B0 W S' (own.set na (.sl at' 1 (ints (atv L2)))) ro) t [nth vs1 0, nth vs1 1] S3)) nxt (fun t vs S' q => by
          cases t with
          | normal => exact wp_mono q fun t vs S'' r => by rcases r with r | ⟨_, r⟩; exact .inl r; cases r
          | exit j =>
            unfold boundTo at q ⊢
            simp only at q ⊢
            split at q
            · exact wp_mono q fun t vs S'' r => by rcases r with r | ⟨_, r⟩; exact .inl r; cases r
            · rcases q with ⟨h, _⟩ | ⟨_, q⟩
              · cases h
              · cases q
          | goto _ => rcases q with ⟨h, _⟩ | ⟨_, q⟩; cases h; cases q
          | ret => rcases q with ⟨h, _⟩ | ⟨_, q⟩; cases h; cases q)
        refine wp_geq (fun hp => ?_) (fun hp => ?_)
        · try unfold Try.a41x18
          repeat (first|refine zA ?_|refine zB rfl ?_|refine zC ?_|refine zD ?_|refine zE rfl ?_|refine zF ?_|refine zG ?_|refine zH ?_|refine zI ?_|refine zJ ?_|refine zK ?_|refine zL rfl ?_|refine zN rfl ?_)
          refine wp_saddro (i := i) H na (ha1 _) (ints_get hga) fun q1 o1 h1 => ?_
          repeat (first|refine zA ?_|refine zB rfl ?_|refine zC ?_|refine zD ?_|refine zE rfl ?_|refine zF ?_|refine zG ?_|refine zH ?_|refine zI ?_|refine zJ ?_|refine zK ?_|refine zL rfl ?_|refine zN rfl ?_)
          refine wp_loadF (j := 0) (cs := [I a]) h1 rfl ?_
          repeat (first|refine zA ?_|refine zB rfl ?_|refine zC ?_|refine zD ?_|refine zE rfl ?_|refine zF ?_|refine zG ?_|refine zH ?_|refine zI ?_|refine zJ ?_|refine zK ?_|refine zL rfl ?_|refine zN rfl ?_)
          refine wp_leq_f (by omega) ?_
          try unfold Try.a41x17
          repeat (first|refine zA ?_|refine zB rfl ?_|refine zC ?_|refine zD ?_|refine zE rfl ?_|refine zF ?_|refine zG ?_|refine zH ?_|refine zI ?_|refine zJ ?_|refine zK ?_|refine zL rfl ?_|refine zN rfl ?_)
          exact nxt'
        · try unfold Try.a41x18
          repeat (first|refine zA ?_|refine zB rfl ?_|refine zC ?_|refine zD ?_|refine zE rfl ?_|refine zF ?_|refine zG ?_|refine zH ?_|refine zI ?_|refine zJ ?_|refine zK ?_|refine zL rfl ?_|refine zN rfl ?_)
          try unfold Try.a41x17
          repeat (first|refine zA ?_|refine zB rfl ?_|refine zC ?_|refine zD ?_|refine zE rfl ?_|refine zF ?_|refine zG ?_|refine zH ?_|refine zI ?_|refine zJ ?_|refine zK ?_|refine zL rfl ?_|refine zN rfl ?_)
          exact nxt'
      · repeat (first|refine zA ?_|refine zB rfl ?_|refine zC ?_|refine zD ?_|refine zE rfl ?_|refine zF ?_|refine zG ?_|refine zH ?_|refine zI ?_|refine zJ ?_|refine zK ?_|refine zL rfl ?_|refine zN rfl ?_)
        refine wp_ret (.inr ⟨by simp, ?_⟩)
        show wp EM _ _ _
        exact wp_ret ⟨rfl, rfl, H⟩
  · rw [List.drop_zero, list_set_self ha]; exact H
end
end Go.Abs
namespace Go.Abs
open Go.Proofs
set_option maxRecDepth 100000
set_option linter.unusedVariables false
theorem nodup_sub_len {α : Type} [DecidableEq α] : ∀ {l m : List α}, l.Nodup → (∀ x ∈ l, x ∈ m) → l.length ≤ m.length
  | [], m, _, _ => by simp
  | a :: r, m, hn, hs => by
    have hn' := List.nodup_cons.1 hn
    have ha : a ∈ m := hs a (by simp)
    have := nodup_sub_len (l := r) (m := m.erase a) hn'.2 fun x hx => (List.mem_erase_of_ne (fun e => by subst e; exact hn'.1 hx)).2 (hs x (by simp [hx]))
    have h2 := List.length_erase_of_mem ha
    have : 0 < m.length := List.length_pos_of_mem ha
    simp; omega
theorem undB : EM.P.underlying 4 = some .bool := by kernel_rfl
section
variable {B0 S : AH} {W : List Nat} {own E R : List Own} {ro : List Fct} {Q : Post} {k : AV → AC} {w : Nat} {x : Wl} {blk : List Own}
/-- a new list of numbers, of one's own -/
theorem wp_litsO (H : Cx B0 W S own ro) {n : Nat} {ps : List (Nat × Nat × AV)} (l : List Int) (he : fillP (repZero [I 0] n) ps = some (l.map fun a => I a)) (hn : l.length = n)
    (h : ∀ v S1, Cx B0 W S1 (.sl v 1 (ints l) :: own) ro → wp EM (k v) S1 Q) : wp EM (.op (.bslice 1 n [I 0] ps) k) S Q := by
  refine wp_op (v := .sl S.next 0 n n) (S1 := S.new (.row (l.map fun a => I a))) ?_ (h _ _ (H.addOwn (Grows.new S _) (x := .sl (.sl S.next 0 n n) 1 (ints l)) ?_ ?_))
  · show nBslice 1 n [I 0] ps S = _
    unfold nBslice
    rw [he]
    have e : (Nat.beq (lenL (l.map fun a => I a)) (Nat.mul n 1) && Nat.beq (lenL [I 0]) 1) = true := by
      rw [lenL_eq, List.length_map, hn, show Nat.mul n 1 = n from Nat.mul_one n, Nat.beq_refl]; rfl
    simp only [e]
    rfl
  · refine .inr ⟨S.next, 0, l.map fun a => I a, .inl ⟨n, by rw [ints_len]; omega, by simp [hn], by rw [ints_len, hn]⟩, get_new_same _ _, ?_, ?_⟩
    · rw [ints_len, List.drop_zero, List.take_of_length_le (by simp)]
      unfold ints
      clear he hn h
      induction l with
      | nil => rfl
      | cons a r ih => simp only [List.map_cons, List.flatten_cons, ih]; rfl
    · intro x hx
      obtain ⟨a, _, rfl⟩ := List.mem_map.1 hx
      rfl
  · intro id hid
    simp only [Own.ids, vids, List.mem_singleton] at hid
    subst hid
    exact ⟨Nat.le_refl _, by simp [AH.new]⟩
/-- an element's place stays -/
theorem wp_saddrK {v : AV} {es i : Nat} {L : List (List AV)} {x : List AV} (hs : slOk S v es L) (hi : L[i]? = some x)
    (h : ∀ id off, (∀ S', slOk S' v es L → (Fct.pt id off x).holds S') → wp EM (k (.ptr id off)) S Q) : wp EM (.op (.saddr es v (I (i : Int))) k) S Q := by
  obtain ⟨id, off, h1, h2, h3⟩ := slOk_elem (M := EM) hs hi
  refine wp_op h1 (h id off fun S' hs' => ?_)
  obtain ⟨id', off', h1', h2', h3'⟩ := slOk_elem (M := EM) hs' hi
  have e1 : pur (pSaddr es v (I (i : Int))) S = some (.ptr id off, S) := h1
  have e2 : pur (pSaddr es v (I (i : Int))) S' = some (.ptr id' off', S') := h1'
  unfold pur at e1 e2
  cases hp : pSaddr es v (I (i : Int)) with
  | none => rw [hp] at e1; cases e1
  | some u =>
    rw [hp] at e1 e2
    cases e1
    cases e2
    exact h2'
theorem wp_chkF {id off j : Nat} {cs : List AV} {v : AV} {k : AC} (hp : (Fct.pt id off cs).holds S) (hj : cs[j]? = some v) (hb : AV.beq v v = true) (h : wp EM k S Q) : wp EM (.chk (.load 1 false (.ptr id (Nat.add off j))) v k) S Q := by
  obtain ⟨c, h1, h2⟩ := pt_get hp hj
  have e := e_load1 (M := EM) h1 h2
  refine wp_chk (v' := v) ?_ hb h
  have e2 : pur (rLoad S 1 false (.ptr id (off + j))) S = some (v, S) := e
  show rLoad S 1 false (.ptr id (off + j)) = some v
  unfold pur at e2
  cases hp : rLoad S 1 false (.ptr id (off + j)) with
  | none => rw [hp] at e2; cases e2
  | some u => rw [hp] at e2; cases e2; rfl
theorem fnd_ins {f : Fi} {L : List Fi} {k : Int} : fnd (ins f (rmv f.id L)) k = if (f.id : Int) = k then some f else fnd L k := by
  have h1 : ∀ L : List Fi, (∀ g ∈ L, g.id ≠ f.id) → fnd (ins f L) k = if (f.id : Int) = k then some f else fnd L k := by
    intro L
    induction L with
    | nil => intro _; unfold ins; rw [fnd_cons]
    | cons g r ih =>
      intro hn
      unfold ins
      split
      · rw [fnd_cons]
      · rw [fnd_cons, ih fun g hg => hn g (by simp [hg]), fnd_cons]
        have := hn g (by simp)
        by_cases e1 : (g.id : Int) = k
        · rw [if_pos e1, if_neg (by omega), if_pos e1]
        · rw [if_neg e1, if_neg e1]
  rw [h1 _ fun g hg => (mem_rmv.1 hg).2]
  split
  · rfl
  · next e =>
    clear h1
    induction L with
    | nil => rfl
    | cons g r ih =>
      unfold rmv at ih ⊢
      by_cases hg : g.id = f.id
      · rw [List.filter_cons_of_neg (by simpa using hg), ih, fnd_cons, if_neg (by omega)]
      · rw [List.filter_cons_of_pos (by simpa using hg), fnd_cons, fnd_cons, ih]
theorem fnd_rmv {id : Nat} {L : List Fi} {k : Int} : fnd (rmv id L) k = if (id : Int) = k then none else fnd L k := by
  induction L with
  | nil => unfold rmv fnd; simp
  | cons g r ih =>
    unfold rmv at ih ⊢
    by_cases hg : g.id = id
    · rw [List.filter_cons_of_neg (by simpa using hg), ih, fnd_cons]
      by_cases e : (id : Int) = k
      · rw [if_pos e, if_pos e]
      · rw [if_neg e, if_neg e, if_neg (by omega)]
    · rw [List.filter_cons_of_pos (by simpa using hg), fnd_cons, fnd_cons, ih]
      by_cases e : (id : Int) = k
      · rw [if_pos e, if_pos e, if_neg (by omega)]
      · rw [if_neg e, if_neg e]
theorem atv_put {x : Wl} {id t : Nat} (h : id < 8) : (atv x.L).set id (t : Int) = atv (x.put ⟨id, t⟩).L := by
  apply List.ext_getElem?
  intro j
  rw [List.getElem?_set]
  by_cases h8 : j < 8
  · rw [atv_get h8, atv_get h8]
    have := fnd_ins (f := ⟨id, t⟩) (L := x.L) (k := (j : Int))
    rw [show (x.put ⟨id, t⟩).L = ins ⟨id, t⟩ (rmv id x.L) from rfl, this]
    by_cases e : id = j
    · subst e; rw [if_pos rfl, if_pos (by rw [atv_len]; exact h8), if_pos rfl]
    · rw [if_neg e, if_neg (by show ¬ (id : Int) = j; omega)]
  · have h1 : (atv x.L)[j]? = none := List.getElem?_eq_none (by rw [atv_len]; omega)
    have h2 : (atv (x.put ⟨id, t⟩).L)[j]? = none := List.getElem?_eq_none (by rw [atv_len]; omega)
    rw [h1, h2, if_neg (by omega)]
theorem atv_rmv {x : Wl} {id : Nat} (h : id < 8) : (atv x.L).set id (-1) = atv (rmv id x.L) := by
  apply List.ext_getElem?
  intro j
  rw [List.getElem?_set]
  by_cases h8 : j < 8
  · rw [atv_get h8, atv_get h8, fnd_rmv]
    by_cases e : id = j
    · subst e; rw [if_pos rfl, if_pos (by rw [atv_len]; exact h8), if_pos rfl]
    · rw [if_neg e, if_neg (by omega)]
  · have h1 : (atv x.L)[j]? = none := List.getElem?_eq_none (by rw [atv_len]; omega)
    have h2 : (atv (rmv id x.L))[j]? = none := List.getElem?_eq_none (by rw [atv_len]; omega)
    rw [h1, h2, if_neg (by omega)]
/-- how many of the first ones are set -/
def manyN (L : List Fi) (n : Nat) : Nat := ((List.range n).filter fun id => (fnd L (id : Nat)).isSome).length
theorem manyN_succ (L : List Fi) (n : Nat) : manyN L (n + 1) = manyN L n + if (fnd L (n : Int)).isSome then 1 else 0 := by
  unfold manyN
  rw [List.range_succ, List.filter_append, List.length_append]
  congr 1
  by_cases h : (fnd L (n : Int)).isSome = true
  · rw [if_pos h]; simp [h]
  · rw [if_neg h]; simp [h]
theorem manyN_all {x : Wl} (ho : x.Ok) (h8 : ∀ g ∈ x.L, g.id < 8) : manyN x.L 8 = x.L.length := by
  have h1 : ((List.range 8).filter fun id => (fnd x.L (id : Nat)).isSome).Nodup := List.nodup_range.filter _
  have h2 := ho.nd
  have e1 := nodup_sub_len (m := x.L.map (·.id)) h1 fun i hi => by
    obtain ⟨_, hi⟩ := List.mem_filter.1 hi
    cases hq : fnd x.L (i : Int) with
    | none => rw [hq] at hi; cases hi
    | some g => obtain ⟨q1, q2⟩ := fnd_mem hq; exact List.mem_map.2 ⟨g, q1, by omega⟩
  have e2 := nodup_sub_len (m := (List.range 8).filter fun id => (fnd x.L (id : Nat)).isSome) h2 fun i hi => by
    obtain ⟨g, hg, rfl⟩ := List.mem_map.1 hi
    refine List.mem_filter.2 ⟨List.mem_range.2 (h8 g hg), ?_⟩
    rw [ho.fnd hg]; rfl
  rw [List.length_map] at e1 e2
  unfold manyN
  omega
theorem wheelFires_ok {S : AH} {v : AV} {l : List Int} {now : Int} (hv : RoSl S v 1 (ints l)) : wpC EM (.fn (.func 6) [] []) [I now, v] S fun r _ => r = B true := by
  refine wpC_fn (b := Try.a6) rfl rfl ?_
  have H := Cx.ro1 hv
  unfold Try.a6
  refine wp_call (wpC_mono (known_ok H) fun r S1 ⟨hr, H⟩ => ?_)
  subst hr
  refine wp_len H (by repeat (first | exact List.Mem.head _ | apply List.Mem.tail)) ?_
  rw [ints_len]
  refine wp_gtr (fun hbig => ?_) (fun hsm => ?_)
  · repeat (first|refine zA ?_|refine zB rfl ?_|refine zC ?_|refine zD ?_|refine zE rfl ?_|refine zF ?_|refine zG ?_|refine zH ?_|refine zI ?_|refine zJ ?_|refine zK ?_|refine zL rfl ?_|refine zN rfl ?_)
    exact wp_ret ⟨rfl, rfl⟩
  repeat (first|refine zA ?_|refine zB rfl ?_|refine zC ?_|refine zD ?_|refine zE rfl ?_|refine zF ?_|refine zG ?_|refine zH ?_|refine zI ?_|refine zJ ?_|refine zK ?_|refine zL rfl ?_|refine zN rfl ?_)
  refine wp_Pick H (by omega) fun S2 H => ?_
  have hp := pick_bd (a := now) (n := 549755813888) (by omega)
  generalize pick now 549755813888 = n0 at hp
  obtain ⟨n0, rfl⟩ : ∃ q : Nat, n0 = (q : Int) := ⟨n0.toNat, by omega⟩
  try unfold Try.a6x23
  refine wp_call (wpC_mono (new_ok H) fun r S3 q => ?_)
  rcases q with ⟨_, w, blk, rfl, h, H⟩ | ⟨hn, _⟩
  rotate_left
  · exact absurd ⟨by omega, by omega⟩ hn
  have h : WRep w ⟨n0, []⟩ blk := h
  repeat (first|refine zA ?_|refine zB rfl ?_|refine zC ?_|refine zD ?_|refine zE rfl ?_|refine zF ?_|refine zG ?_|refine zH ?_|refine zI ?_|refine zJ ?_|refine zK ?_|refine zL rfl ?_|refine zN rfl ?_)
  refine wp_neq_f rfl ?_
  repeat (first|refine zA ?_|refine zB rfl ?_|refine zC ?_|refine zD ?_|refine zE rfl ?_|refine zF ?_|refine zG ?_|refine zH ?_|refine zI ?_|refine zJ ?_|refine zK ?_|refine zL rfl ?_|refine zN rfl ?_)
  refine wp_ptrNil typW ?_
  try unfold Try.a6x22
  repeat (first|refine zA ?_|refine zB rfl ?_|refine zC ?_|refine zD ?_|refine zE rfl ?_|refine zF ?_|refine zG ?_|refine zH ?_|refine zI ?_|refine zJ ?_|refine zK ?_|refine zL rfl ?_|refine zN rfl ?_)
  refine wp_litsO H (atv []) rfl rfl fun va S4 H => ?_
  -- the acts
  refine wp_bind ?_
  try unfold Try.a6x11
  refine wp_loop (wpL_inv (fun m vs S1 => ∃ (i : Nat) (x : Wl) (blk : List Own) (u2 : AV), vs = [I (i : Int), I (x.now : Int), B false, u2] ∧ i ≤ l.length ∧ m = l.length - i ∧ WRep w x blk ∧ (∀ g ∈ x.L, g.id < 8) ∧ Cx S [] S1 (.sl va 1 (ints (atv x.L)) :: (blk ++ [])) [.sl v 1 (ints l)]) ?_ l.length ⟨0, ⟨n0, []⟩, blk, _, rfl, by omega, by omega, h, (fun g hg => by cases hg), H⟩)
  rintro m vs S5 ⟨i, x, blk, u2, rfl, hi, rfl, h, h8, H⟩
  have hclk := h.ok.clk
  refine wp_len H (by repeat (first | exact List.Mem.head _ | apply List.Mem.tail)) ?_
  rw [ints_len]
  refine wp_lss (fun hlt => ?_) (fun hge => ?_)
  · have hlt : i < l.length := by omega
    repeat (first|refine zA ?_|refine zB rfl ?_|refine zC ?_|refine zD ?_|refine zE rfl ?_|refine zF ?_|refine zG ?_|refine zH ?_|refine zI ?_|refine zJ ?_|refine zK ?_|refine zL rfl ?_|refine zN rfl ?_)
    try unfold Try.a6x10
    refine wp_bind ?_
    refine wp_saddr (i := i) (x := [I l[i]]) H (by repeat (first | exact List.Mem.head _ | apply List.Mem.tail)) (by simp [ints, hlt]) fun q1 o1 H1 => ?_
    refine wp_load0 H1 (by repeat (first | exact List.Mem.head _ | apply List.Mem.tail)) rfl ?_
    replace H := H1.tl
    refine wp_Pick H (by omega) fun S6 H => ?_
    have hp2 := pick_bd (a := l[i]) (n := 1073741824) (by omega)
    generalize pick l[i] 1073741824 = n at hp2
    obtain ⟨n, rfl⟩ : ∃ q : Nat, n = (q : Int) := ⟨n.toNat, by omega⟩
    try unfold Try.a6x9
    have e1 : ((n : Int).tdiv 4) = ((n / 4 : Nat) : Int) := by rw [show (4 : Int) = ((4 : Nat) : Int) from rfl, Int.ofNat_tdiv]
    refine wp_quo (c := ((n / 4 : Nat) : Int)) (by omega) (by rw [e1, wrap64 (by omega) (by omega)]) ?_
    refine wp_rem (by omega) ?_
    have e2 : (((n / 4 : Nat) : Int).tmod 8) = ((n / 4 % 8 : Nat) : Int) := by rw [show (8 : Int) = ((8 : Nat) : Int) from rfl, Int.ofNat_tmod]
    rw [e2]
    have hid : n / 4 % 8 < 8 := Nat.mod_lt _ (by omega)
    generalize n / 4 % 8 = id at hid
    have e3 : ((n : Int).tdiv 32) = ((n / 32 : Nat) : Int) := by rw [show (32 : Int) = ((32 : Nat) : Int) from rfl, Int.ofNat_tdiv]
    refine wp_quo (c := ((n / 32 : Nat) : Int)) (by omega) (by rw [e3, wrap64 (by omega) (by omega)]) ?_
    refine wp_call (wpC_mono (near_ok H (now := x.now) hclk) fun r S7 ⟨⟨t, hr, ht1, ht2⟩, H⟩ => ?_)
    subst hr
    refine wp_rem (by omega) ?_
    have e4 : ((n : Int).tmod 4) = ((n % 4 : Nat) : Int) := by rw [show (4 : Int) = ((4 : Nat) : Int) from rfl, Int.ofNat_tmod]
    rw [e4]
    generalize n % 4 = kd
    refine wp_bind ?_
    try unfold Try.a6x8
    let G : AH → Wl → List Own → Prop := fun S' y blk' => WRep w y blk' ∧ (∀ g ∈ y.L, g.id < 8) ∧ Cx S [] S' (.sl va 1 (ints (atv y.L)) :: (blk' ++ [])) [.sl v 1 (ints l)]
    have hz2 : setE x (id : Int) (t : Int) = 0 := by
      unfold setE
      rw [if_neg (by omega), if_neg (by omega)]
    have setc : ∀ (u : AV), wp EM (Try.a6x7 (.ptr w 0) va [I (i : Int), I (x.now : Int), B false, u2] (I (id : Int)) (I (t : Int)) u [B true]) S7 fun t vs S' => t = .normal ∧ ∃ y blk', vs = [I (y.now : Int), B false] ∧ G S' y blk' := by
      intro u
      unfold Try.a6x7
      repeat (first|refine zA ?_|refine zB rfl ?_|refine zC ?_|refine zD ?_|refine zE rfl ?_|refine zF ?_|refine zG ?_|refine zH ?_|refine zI ?_|refine zJ ?_|refine zK ?_|refine zL rfl ?_|refine zN rfl ?_)
      refine wp_Set (E := [.sl va 1 (ints (atv x.L))]) (e := 0) (y := x.put ⟨id, t⟩) hz2 (by unfold setX; rw [if_pos hz2]; rfl) h H fun S8 blk2 h2 H2 => ?_
      refine wp_neq_f rfl ?_
      repeat (first|refine zA ?_|refine zB rfl ?_|refine zC ?_|refine zD ?_|refine zE rfl ?_|refine zF ?_|refine zG ?_|refine zH ?_|refine zI ?_|refine zJ ?_|refine zK ?_|refine zL rfl ?_|refine zN rfl ?_)
      try unfold Try.a6x1
      refine wp_storeE (i := id) (y := I (t : Int)) H2 0 rfl (by rw [ints_len, atv_len]; exact hid) rfl rfl fun S9 H3 => ?_
      refine wp_ret ⟨rfl, x.put ⟨id, t⟩, blk2, rfl, h2, (fun g hg => ?_), ?_⟩
      · rcases mem_ins.1 hg with rfl | hg
        · exact hid
        · exact h8 g (mem_rmv.1 hg).1
      · have H4 : Cx S [] S9 (.sl va 1 ((ints (atv x.L)).set id (I (t : Int)).cells) :: (blk2 ++ [])) [.sl v 1 (ints l)] := H3
        have e5 : (ints (atv x.L)).set id (I (t : Int)).cells = ints (atv (x.put ⟨id, t⟩).L) := by
          rw [← atv_put hid, ← ints_set]; rfl
        rw [e5] at H4
        exact H4
    have dropc : wp EM (Try.a6x6 (.ptr w 0) va [I (i : Int), I (x.now : Int), B false, u2] (I (id : Int)) (I (t : Int)) (B true)) S7 fun t vs S' => t = .normal ∧ ∃ y blk', vs = [I (y.now : Int), B false] ∧ G S' y blk' := by
      unfold Try.a6x6
      repeat (first|refine zA ?_|refine zB rfl ?_|refine zC ?_|refine zD ?_|refine zE rfl ?_|refine zF ?_|refine zG ?_|refine zH ?_|refine zI ?_|refine zJ ?_|refine zK ?_|refine zL rfl ?_|refine zN rfl ?_)
      obtain ⟨a, hga, hav⟩ : ∃ a : Int, (atv x.L)[id]? = some a ∧ ((0 ≤ a) ↔ (fnd x.L (id : Int)).isSome = true) := by
        refine ⟨_, atv_get hid, ?_⟩
        cases hq : fnd x.L (id : Int) with
        | none => simp
        | some g => simp
      refine wp_saddrK (i := id) (ownSl_ok (H.oh _ (List.Mem.head _))) (ints_get hga) fun q1 o1 hK => ?_
      refine wp_loadF (j := 0) (cs := [I a]) (hK _ (ownSl_ok (H.oh _ (List.Mem.head _)))) rfl ?_
      refine wp_op e_geq ?_
      refine wp_call (wpC_mono (drop_ok (E := [.sl va 1 (ints (atv x.L))]) (id := (id : Int)) h H) fun r S8 ⟨hr, blk2, h2, H2⟩ => ?_)
      subst hr
      try unfold Try.a6x3
      refine wp_chkF (j := 0) (cs := [I a]) (hK _ (ownSl_ok (H2.oh _ (List.Mem.head _)))) rfl beq_num ?_
      refine wp_op e_eql ?_
      refine wp_op (e_eqb undB) ?_
      have hb : (if true = true then !(decide (dropE x (id : Int) = 0) == decide (0 ≤ a)) else (decide (dropE x (id : Int) = 0) == decide (0 ≤ a))) = false := by
        rw [if_pos rfl]
        have : decide (dropE x (id : Int) = 0) = decide (0 ≤ a) := by
          rw [decide_eq_decide, hav]
          unfold dropE
          cases fnd x.L (id : Int) <;> simp
        rw [this]; simp
      rw [hb]
      repeat (first|refine zA ?_|refine zB rfl ?_|refine zC ?_|refine zD ?_|refine zE rfl ?_|refine zF ?_|refine zG ?_|refine zH ?_|refine zI ?_|refine zJ ?_|refine zK ?_|refine zL rfl ?_|refine zN rfl ?_)
      try unfold Try.a6x2
      refine wp_storeE (i := id) (y := I (-1)) H2 0 rfl (by rw [ints_len, atv_len]; exact hid) rfl rfl fun S9 H3 => ?_
      have H4 : Cx S [] S9 (.sl va 1 ((ints (atv x.L)).set id (I (-1)).cells) :: (blk2 ++ [])) [.sl v 1 (ints l)] := H3
      have e5 : (ints (atv x.L)).set id (I (-1)).cells = ints (atv (dropX x (id : Int)).L) := by
        have : (dropX x (id : Int)).L = rmv id x.L := by
          unfold dropX
          cases hq : fnd x.L (id : Int) with
          | none =>
            exact (List.filter_eq_self.2 fun g hg => by have := fnd_none hq g hg; simp only [bne_iff_ne]; omega).symm
          | some g => rfl
        rw [this, ← atv_rmv hid, ← ints_set]; rfl
      rw [e5] at H4
      have hnow : (dropX x (id : Int)).now = x.now := by unfold dropX; cases fnd x.L (id : Int) <;> rfl
      refine wp_ret ⟨rfl, dropX x (id : Int), blk2, by rw [hnow]; rfl, h2, fun g hg => ?_, H4⟩
      unfold dropX at hg
      cases hq : fnd x.L (id : Int) with
      | none => rw [hq] at hg; exact h8 g hg
      | some _ => rw [hq] at hg; exact h8 g (mem_rmv.1 hg).1
    have tickc : wp EM (Try.a6x6 (.ptr w 0) va [I (i : Int), I (x.now : Int), B false, u2] (I (id : Int)) (I (t : Int)) (B false)) S7 fun t vs S' => t = .normal ∧ ∃ y blk', vs = [I (y.now : Int), B false] ∧ G S' y blk' := by
      unfold Try.a6x6
      repeat (first|refine zA ?_|refine zB rfl ?_|refine zC ?_|refine zD ?_|refine zE rfl ?_|refine zF ?_|refine zG ?_|refine zH ?_|refine zI ?_|refine zJ ?_|refine zK ?_|refine zL rfl ?_|refine zN rfl ?_)
      have hm : mayE x (t : Int) = 0 := by unfold mayE; rw [if_pos (by omega), if_neg (by omega)]
      refine wp_call (wpC_mono (tick_ok (E := [.sl va 1 (ints (atv x.L))]) (to := (t : Int)) h H) fun r S8 ⟨f, blk2, hr, h2, H2⟩ => ?_)
      subst hr
      rw [hm]
      unfold tickX at h2
      unfold tickL at H2
      rw [if_pos hm] at h2 H2
      have h2 : WRep w ⟨t, leftL x (t : Int)⟩ blk2 := h2
      repeat (first|refine zA ?_|refine zB rfl ?_|refine zC ?_|refine zD ?_|refine zE rfl ?_|refine zF ?_|refine zG ?_|refine zH ?_|refine zI ?_|refine zJ ?_|refine zK ?_|refine zL rfl ?_|refine zN rfl ?_)
      refine wp_neq_f rfl ?_
      try unfold Try.a6x5
      repeat (first|refine zA ?_|refine zB rfl ?_|refine zC ?_|refine zD ?_|refine zE rfl ?_|refine zF ?_|refine zG ?_|refine zH ?_|refine zI ?_|refine zJ ?_|refine zK ?_|refine zL rfl ?_|refine zN rfl ?_)
      refine wp_call (wpC_mono (dueC_ok (x := x) (to := (t : Int)) (nf := 0) (na := 1) h.ok h8 H2 rfl rfl (by omega)) fun r S9 ⟨hr, H3⟩ => ?_)
      subst hr
      repeat (first|refine zA ?_|refine zB rfl ?_|refine zC ?_|refine zD ?_|refine zE rfl ?_|refine zF ?_|refine zG ?_|refine zH ?_|refine zI ?_|refine zJ ?_|refine zK ?_|refine zL rfl ?_|refine zN rfl ?_)
      refine wp_op (v := B false) rfl ?_
      try unfold Try.a6x4
      repeat (first|refine zA ?_|refine zB rfl ?_|refine zC ?_|refine zD ?_|refine zE rfl ?_|refine zF ?_|refine zG ?_|refine zH ?_|refine zI ?_|refine zJ ?_|refine zK ?_|refine zL rfl ?_|refine zN rfl ?_)
      refine wp_ret ⟨rfl, ⟨t, leftL x (t : Int)⟩, blk2, rfl, h2, fun g hg => h8 g (List.mem_filter.1 hg).1, ?_⟩
      exact H3.dropAt 0
    -- what comes of any act
    have body : wp EM (Try.a6x8 (.ptr w 0) va [I (i : Int), I (x.now : Int), B false, u2] (I (id : Int)) (I (t : Int)) (I (kd : Int))) S7 fun t vs S' => t = .normal ∧ ∃ y blk' u, vs = [I (y.now : Int), B false, u] ∧ G S' y blk' := by
      unfold Try.a6x8
      have tail : ∀ (u : AV), wp EM (Try.a6x7 (.ptr w 0) va [I (i : Int), I (x.now : Int), B false, u2] (I (id : Int)) (I (t : Int)) (I (kd : Int)) [u]) S7 (fun t vs S' => t = .normal ∧ ∃ y blk', vs = [I (y.now : Int), B false] ∧ G S' y blk') →
          wp EM (.bind (Try.a6x7 (.ptr w 0) va [I (i : Int), I (x.now : Int), B false, u2] (I (id : Int)) (I (t : Int)) (I (kd : Int)) [u]) none (fun v26 => .ret .normal [(nth v26 0), (nth v26 1), (nth [u] 0)]) (fun v26 => [(nth v26 0), (nth v26 1), (nth [u] 0)])) S7 fun t vs S' => t = .normal ∧ ∃ y blk' u, vs = [I (y.now : Int), B false, u] ∧ G S' y blk' := by
        intro u hw
        refine wp_bind (wp_mono hw fun t vs S' q => ?_)
        obtain ⟨rfl, y, blk', rfl, hG⟩ := q
        show wp EM _ _ _
        exact wp_ret ⟨rfl, y, blk', u, rfl, hG⟩
      refine wp_eql (fun h0 => ?_) (fun h0 => ?_)
      · refine wp_bind (wp_ite_t (wp_ret ?_))
        exact tail (B true) (setc _)
      · refine wp_bind (wp_ite_f ?_)
        try unfold Try.a6x0
        refine wp_eql (fun h1 => ?_) (fun h1 => ?_)
        · refine wp_ret ?_
          exact tail (B true) (setc _)
        · refine wp_ret ?_
          refine tail (B false) ?_
          unfold Try.a6x7
          repeat (first|refine zA ?_|refine zB rfl ?_|refine zC ?_|refine zD ?_|refine zE rfl ?_|refine zF ?_|refine zG ?_|refine zH ?_|refine zI ?_|refine zJ ?_|refine zK ?_|refine zL rfl ?_|refine zN rfl ?_)
          refine wp_eql (fun h3 => ?_) (fun h3 => ?_)
          · refine wp_bind (wp_mono dropc fun t vs S' q => ?_)
            obtain ⟨rfl, y, blk', rfl, hG⟩ := q
            show wp EM _ _ _
            exact wp_ret ⟨rfl, y, blk', rfl, hG⟩
          · refine wp_bind (wp_mono tickc fun t vs S' q => ?_)
            obtain ⟨rfl, y, blk', rfl, hG⟩ := q
            show wp EM _ _ _
            exact wp_ret ⟨rfl, y, blk', rfl, hG⟩
    refine wp_mono body fun t vs S' q => ?_
    obtain ⟨rfl, y, blk', u, rfl, h', h8', H'⟩ := q
    show wp EM _ _ _
    refine wp_ret ?_
    show wp EM _ _ _
    exact wp_add64 (by omega) (by omega) (wp_ret (.inl ⟨rfl, l.length - (i + 1), by omega, i + 1, y, blk', u, rfl, by omega, rfl, h', h8', H'⟩))
  · have : i = l.length := by omega
    subst this
    repeat (first|refine zA ?_|refine zB rfl ?_|refine zC ?_|refine zD ?_|refine zE rfl ?_|refine zF ?_|refine zG ?_|refine zH ?_|refine zI ?_|refine zJ ?_|refine zK ?_|refine zL rfl ?_|refine zN rfl ?_)
    refine wp_ret (.inr ⟨by simp, ?_⟩)
    show wp EM _ _ _
    try unfold Try.a6x21
    -- what is left
    refine wp_bind ?_
    refine wp_loop (wpL_inv (fun m vs S1 => ∃ (i : Nat) (u : AV), vs = [I (i : Int), u, I (manyN x.L i : Int)] ∧ i ≤ 8 ∧ m = 8 - i ∧ Cx S [] S1 (.sl va 1 (ints (atv x.L)) :: (blk ++ [])) [.sl v 1 (ints l)]) ?_ 8 ⟨0, _, rfl, by omega, by omega, H⟩)
    clear H
    rintro m vs S6 ⟨i, u, rfl, hi8, rfl, H⟩
    try unfold Try.a6x18
    refine wp_leno H 0 rfl ?_
    rw [ints_len, atv_len]
    have hmb : manyN x.L i ≤ i := by
      unfold manyN
      have := List.length_filter_le (fun id => (fnd x.L (id : Nat)).isSome) (List.range i)
      simpa using this
    refine wp_lss (fun hlt => ?_) (fun hge2 => ?_)
    · have hlt : i < 8 := by omega
      repeat (first|refine zA ?_|refine zB rfl ?_|refine zC ?_|refine zD ?_|refine zE rfl ?_|refine zF ?_|refine zG ?_|refine zH ?_|refine zI ?_|refine zJ ?_|refine zK ?_|refine zL rfl ?_|refine zN rfl ?_)
      try unfold Try.a6x16
      refine wp_bind ?_
      obtain ⟨a, hga, hav⟩ : ∃ a : Int, (atv x.L)[i]? = some a ∧ a = (match fnd x.L (i : Int) with | some f => (f.tm : Int) | none => -1) := ⟨_, atv_get hlt, rfl⟩
      have hav2 : (0 ≤ a) ↔ (fnd x.L (i : Int)).isSome = true := by
        rw [hav]
        cases fnd x.L (i : Int) with
        | none => simp
        | some g => simp
      refine wp_saddro (i := i) H 0 rfl (ints_get hga) fun q1 o1 h1 => ?_
      refine wp_loadF (j := 0) (cs := [I a]) h1 rfl ?_
      have tail : ∀ (S6 : AH), Cx S [] S6 (.sl va 1 (ints (atv x.L)) :: (blk ++ [])) [.sl v 1 (ints l)] → wp EM (Try.a6x15 (.ptr w 0) va [I (i : Int), u, I (manyN x.L i : Int)] [I (manyN x.L (i + 1) : Int)]) S6
          fun t vs S' => t = .normal ∧ vs = [u, I (manyN x.L (i + 1) : Int)] ∧ Cx S [] S' (.sl va 1 (ints (atv x.L)) :: (blk ++ [])) [.sl v 1 (ints l)] := by
        intro S6 H
        unfold Try.a6x15
        refine wp_call (wpC_mono (at_ok (E := [.sl va 1 (ints (atv x.L))]) (id := (i : Int)) h H) fun r S8 ⟨hr, H⟩ => ?_)
        subst hr
        unfold atR
        cases hq : fnd x.L (i : Int) with
        | none =>
          rw [hq] at hav
          subst hav
          repeat (first|refine zA ?_|refine zB rfl ?_|refine zC ?_|refine zD ?_|refine zE rfl ?_|refine zF ?_|refine zG ?_|refine zH ?_|refine zI ?_|refine zJ ?_|refine zK ?_|refine zL rfl ?_|refine zN rfl ?_)
          refine wp_saddro (i := i) H 0 rfl (ints_get hga) fun q1 o1 h1 => ?_
          refine wp_loadF (j := 0) (cs := [I (-1)]) h1 rfl ?_
          refine wp_geq_f (by omega) ?_
          try unfold Try.a6x14
          refine wp_op (e_eqb undB) ?_
          have hbb : (if true = true then !(false == false) else (false == false)) = false := rfl
          rw [hbb]
          repeat (first|refine zA ?_|refine zB rfl ?_|refine zC ?_|refine zD ?_|refine zE rfl ?_|refine zF ?_|refine zG ?_|refine zH ?_|refine zI ?_|refine zJ ?_|refine zK ?_|refine zL rfl ?_|refine zN rfl ?_)
          try unfold Try.a6x13
          repeat (first|refine zA ?_|refine zB rfl ?_|refine zC ?_|refine zD ?_|refine zE rfl ?_|refine zF ?_|refine zG ?_|refine zH ?_|refine zI ?_|refine zJ ?_|refine zK ?_|refine zL rfl ?_|refine zN rfl ?_)
          exact wp_ret ⟨rfl, rfl, H⟩
        | some g =>
          rw [hq] at hav
          have hav : a = (g.tm : Int) := hav
          subst hav
          repeat (first|refine zA ?_|refine zB rfl ?_|refine zC ?_|refine zD ?_|refine zE rfl ?_|refine zF ?_|refine zG ?_|refine zH ?_|refine zI ?_|refine zJ ?_|refine zK ?_|refine zL rfl ?_|refine zN rfl ?_)
          refine wp_saddro (i := i) H 0 rfl (ints_get hga) fun q1 o1 h1 => ?_
          refine wp_loadF (j := 0) (cs := [I (g.tm : Int)]) h1 rfl ?_
          refine wp_geq_t (by omega) ?_
          try unfold Try.a6x14
          refine wp_op (e_eqb undB) ?_
          have hbb : (if true = true then !(true == true) else (true == true)) = false := rfl
          rw [hbb]
          repeat (first|refine zA ?_|refine zB rfl ?_|refine zC ?_|refine zD ?_|refine zE rfl ?_|refine zF ?_|refine zG ?_|refine zH ?_|refine zI ?_|refine zJ ?_|refine zK ?_|refine zL rfl ?_|refine zN rfl ?_)
          try unfold Try.a6x13
          repeat (first|refine zA ?_|refine zB rfl ?_|refine zC ?_|refine zD ?_|refine zE rfl ?_|refine zF ?_|refine zG ?_|refine zH ?_|refine zI ?_|refine zJ ?_|refine zK ?_|refine zL rfl ?_|refine zN rfl ?_)
          refine wp_saddro (i := i) H 0 rfl (ints_get hga) fun q1 o1 h1 => ?_
          repeat (first|refine zA ?_|refine zB rfl ?_|refine zC ?_|refine zD ?_|refine zE rfl ?_|refine zF ?_|refine zG ?_|refine zH ?_|refine zI ?_|refine zJ ?_|refine zK ?_|refine zL rfl ?_|refine zN rfl ?_)
          refine wp_loadF (j := 0) (cs := [I (g.tm : Int)]) h1 rfl ?_
          repeat (first|refine zA ?_|refine zB rfl ?_|refine zC ?_|refine zD ?_|refine zE rfl ?_|refine zF ?_|refine zG ?_|refine zH ?_|refine zI ?_|refine zJ ?_|refine zK ?_|refine zL rfl ?_|refine zN rfl ?_)
          refine wp_neq_f rfl ?_
          repeat (first|refine zA ?_|refine zB rfl ?_|refine zC ?_|refine zD ?_|refine zE rfl ?_|refine zF ?_|refine zG ?_|refine zH ?_|refine zI ?_|refine zJ ?_|refine zK ?_|refine zL rfl ?_|refine zN rfl ?_)
          exact wp_ret ⟨rfl, rfl, H⟩
      have hsucc := manyN_succ x.L i
      refine wp_geq (fun hp => ?_) (fun hp => ?_)
      · try unfold Try.a6x12
        rw [if_pos (hav2.1 hp)] at hsucc
        refine wp_bind (wp_ite_t ?_)
        refine wp_add64 (by omega) (by omega) (wp_ret ?_)
        have e6 : ((manyN x.L i : Nat) : Int) + 1 = (manyN x.L (i + 1) : Int) := by omega
        show wp EM _ _ _
        rw [e6]
        refine wp_mono (tail _ H) fun t vs S' q => ?_
        obtain ⟨rfl, rfl, H'⟩ := q
        show wp EM _ _ _
        try unfold Try.a6x17
        exact wp_add64 (by omega) (by omega) (wp_ret (.inl ⟨rfl, 8 - (i + 1), by omega, i + 1, u, rfl, by omega, rfl, H'⟩))
      · try unfold Try.a6x12
        rw [if_neg (fun hc => by have := hav2.2 hc; omega)] at hsucc
        refine wp_bind (wp_ite_f (wp_ret ?_))
        have e6 : ((manyN x.L i : Nat) : Int) = (manyN x.L (i + 1) : Int) := by omega
        show wp EM _ _ _
        rw [e6]
        refine wp_mono (tail _ H) fun t vs S' q => ?_
        obtain ⟨rfl, rfl, H'⟩ := q
        show wp EM _ _ _
        try unfold Try.a6x17
        exact wp_add64 (by omega) (by omega) (wp_ret (.inl ⟨rfl, 8 - (i + 1), by omega, i + 1, u, rfl, by omega, rfl, H'⟩))
    · have : i = 8 := by omega
      subst this
      repeat (first|refine zA ?_|refine zB rfl ?_|refine zC ?_|refine zD ?_|refine zE rfl ?_|refine zF ?_|refine zG ?_|refine zH ?_|refine zI ?_|refine zJ ?_|refine zK ?_|refine zL rfl ?_|refine zN rfl ?_)
      refine wp_ret (.inr ⟨by simp, ?_⟩)
      show wp EM _ _ _
      repeat (first|refine zA ?_|refine zB rfl ?_|refine zC ?_|refine zD ?_|refine zE rfl ?_|refine zF ?_|refine zG ?_|refine zH ?_|refine zI ?_|refine zJ ?_|refine zK ?_|refine zL rfl ?_|refine zN rfl ?_)
      refine wp_call (wpC_mono (list_ok (E := [.sl va 1 (ints (atv x.L))]) h H) fun u7 S7 H7 => ?_)
      repeat (first|refine zA ?_|refine zB rfl ?_|refine zC ?_|refine zD ?_|refine zE rfl ?_|refine zF ?_|refine zG ?_|refine zH ?_|refine zI ?_|refine zJ ?_|refine zK ?_|refine zL rfl ?_|refine zN rfl ?_)
      refine wp_leno H7 0 rfl ?_
      try unfold Try.a6x20
      repeat (first|refine zA ?_|refine zB rfl ?_|refine zC ?_|refine zD ?_|refine zE rfl ?_|refine zF ?_|refine zG ?_|refine zH ?_|refine zI ?_|refine zJ ?_|refine zK ?_|refine zL rfl ?_|refine zN rfl ?_)
      rw [fis_len]
      refine wp_eql_t (by rw [manyN_all h.ok h8]) ?_
      repeat (first|refine zA ?_|refine zB rfl ?_|refine zC ?_|refine zD ?_|refine zE rfl ?_|refine zF ?_|refine zG ?_|refine zH ?_|refine zI ?_|refine zJ ?_|refine zK ?_|refine zL rfl ?_|refine zN rfl ?_)
      refine wp_Now (E := [.sl u7 2 (fis x.L), .sl va 1 (ints (atv x.L))]) h H7 fun S8 H8 => ?_
      repeat (first|refine zA ?_|refine zB rfl ?_|refine zC ?_|refine zD ?_|refine zE rfl ?_|refine zF ?_|refine zG ?_|refine zH ?_|refine zI ?_|refine zJ ?_|refine zK ?_|refine zL rfl ?_|refine zN rfl ?_)
      try unfold Try.a6x19
      repeat (first|refine zA ?_|refine zB rfl ?_|refine zC ?_|refine zD ?_|refine zE rfl ?_|refine zF ?_|refine zG ?_|refine zH ?_|refine zI ?_|refine zJ ?_|refine zK ?_|refine zL rfl ?_|refine zN rfl ?_)
      refine wp_eql_t rfl ?_
      repeat (first|refine zA ?_|refine zB rfl ?_|refine zC ?_|refine zD ?_|refine zE rfl ?_|refine zF ?_|refine zG ?_|refine zH ?_|refine zI ?_|refine zJ ?_|refine zK ?_|refine zL rfl ?_|refine zN rfl ?_)
      exact wp_ret ⟨rfl, rfl⟩
end
end Go.Abs
