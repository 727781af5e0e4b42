/- functions of this cut: what they compute, in the abstract machine. Conditions: stated in each theorem -/
import Derived.Test.YtbpgfafpkagmmaaGreatE2
set_option linter.unusedVariables false
set_option linter.unusedSimpArgs false
namespace Go.Abs
open Go.Proofs
set_option maxRecDepth 100000
set_option linter.unusedVariables false
open Tsk (Tk tks tchk)
/-! ### the document's model -/
def pas (l : List Int) : List Int := l.map (· + 1)
theorem pas_get? {l : List Int} {i : Nat} {n : Int} (h : l[i]? = some n) : (pas l)[i]? = some (n + 1) := by unfold pas; rw [List.getElem?_map, h]; rfl
theorem pas_set (l : List Int) (i : Nat) (n : Int) : (pas l).set i (n + 1) = pas (l.set i n) := by unfold pas; rw [List.map_set]
theorem pas_len (l : List Int) : (pas l).length = l.length := List.length_map ..
def Lv.ds (x : Lv) : List AV := [I x.st, I x.core, U x.key]
def jds (l : List Lv) : List (List AV) := l.map Lv.ds
theorem jds_len (l : List Lv) : (jds l).length = l.length := List.length_map ..
theorem jds_get? {l : List Lv} {i : Nat} {x : Lv} (h : l[i]? = some x) : (jds l)[i]? = some x.ds := by unfold jds; rw [List.getElem?_map, h]; rfl
theorem jds_set (l : List Lv) (i : Nat) (x : Lv) : (jds l).set i x.ds = jds (l.set i x) := by unfold jds; rw [List.map_set]
def dOwnG (x : Nat) (s : Ms) (m : Mv) (bz : List AV) : List Own := .obj x (.row (s.row m)) :: .sl m.vp 1 (ints (pas s.passed)) :: .sl m.vj 3 (jds s.jobs) :: .sl m.vf 1 (ints s.free) :: .sl m.vm 1 (ptrs m.bx) :: .sl m.vr 1 (ints s.runs) :: .sl m.vg 1 (bls s.flags) :: List.zipWith boxO bz s.mail
def dOwn (x : Nat) (s : Ms) (m : Mv) : List Own := dOwnG x s m m.bx
theorem dbox_get {x : Nat} {s : Ms} {m : Mv} {R : List Own} {bz : List AV} {c : Nat} {b : AV} {l : List Int} (h1 : bz[c]? = some b) (h2 : s.mail[c]? = some l) : (dOwnG x s m bz ++ R)[c + 7]? = some (boxO b l) := by
  show (List.zipWith boxO bz s.mail ++ R)[c]? = _
  have h := zip_get h1 h2
  rw [List.getElem?_append_left (List.getElem?_eq_some_iff.1 h).1, h]
theorem dbox_set {x : Nat} {s : Ms} {m : Mv} {R : List Own} {bz : List AV} {c : Nat} {b b' : AV} {l l' : List Int} (h1 : bz[c]? = some b) (h2 : s.mail[c]? = some l) :
    (dOwnG x s m bz ++ R).set (c + 7) (boxO b' l') = dOwnG x { s with mail := s.mail.set c l' } m (bz.set c b') ++ R := by
  have h := zip_get h1 h2
  show _ :: _ :: _ :: _ :: _ :: _ :: _ :: (List.zipWith boxO bz s.mail ++ R).set c (boxO b' l') = _
  rw [List.set_append_left _ _ (List.getElem?_eq_some_iff.1 h).1, zip_set]
  rfl
section
variable {B0 S : AH} {W : List Nat} {own R : List Own} {ro : List Fct} {Q : Post} {k : AV → AC} {v : AV} {x : Nat} {s : Ms} {m : Mv}
def LeastTo (s : Ms) (i : Nat) (a : Int) : Prop := (a = -1 ∧ ∀ (j : Nat) y, j < i → s.jobs[j]? = some y → y.st ≠ 3) ∨ ∃ (n : Nat) (z : Lv), a = (n : Int) ∧ n < i ∧ s.jobs[n]? = some z ∧ z.st = 3 ∧ ∀ (j : Nat) y, j < i → s.jobs[j]? = some y → y.st = 3 → z.key < y.key ∨ z.key = y.key ∧ n ≤ j
theorem LeastTo.done {s : Ms} (wf : s.Wf) {a : Int} (h : LeastTo s s.jobs.length a) : (a = -1 ∧ rdy s.jobs = []) ∨ ∃ z, a = z.job ∧ 0 ≤ a ∧ IsLeast z (rdy s.jobs) := by
  rcases h with ⟨h1, h2⟩ | ⟨n, z, h1, h2, h3, h4, h5⟩
  · refine .inl ⟨h1, List.filter_eq_nil_iff.2 fun y hy => ?_⟩
    obtain ⟨j, hj⟩ := List.getElem?_of_mem hy
    simpa using h2 j y (List.getElem?_eq_some_iff.1 hj).1 hj
  · have hz := wf.jj n z h3
    refine .inr ⟨z, by rw [h1, hz], by omega, List.mem_filter.2 ⟨List.mem_of_getElem? h3, by simpa using h4⟩, fun y hy hlt => ?_⟩
    obtain ⟨hm, hst⟩ := List.mem_filter.1 hy
    obtain ⟨j, hj⟩ := List.getElem?_of_mem hm
    have := h5 j y (List.getElem?_eq_some_iff.1 hj).1 hj (by simpa using hst)
    have hyj := wf.jj j y hj
    unfold Lv.lt at hlt
    omega
theorem rleast_ok (wf : s.Wf) (H : Cx B0 W S (dOwn x s m ++ R) ro) : wpC EM (.fn (.func 63) [] []) [.ptr x 0] S fun r S' => ∃ a : Int, r = I a ∧ LeastTo s s.jobs.length a ∧ Cx B0 W S' (dOwn x s m ++ R) ro := by
  refine wpC_fn (b := Tryz.a63) rfl rfl ?_
  unfold Tryz.a63 Tryz.a63x6 Tryz.a63x5 Tryz.a63x4 Tryz.a63x3 Tryz.a63x2 Tryz.a63x1 Tryz.a63x0
  have hjl := wf.j64
  refine wp_bind (wp_loop (wpL_for s.jobs.length (fun i vs S1 => ∃ a : Int, vs = [I (i : Int), I a] ∧ LeastTo s i a ∧ Cx B0 W S1 (dOwn x s m ++ R) ro) ?_ ?_ ⟨-1, rfl, .inl ⟨rfl, fun j y h => by omega⟩, H⟩))
  · clear H
    rintro i vs S1 hlt ⟨a, rfl, hL, H⟩
    have hx : s.jobs[i]? = some s.jobs[i] := List.getElem?_eq_getElem hlt
    generalize s.jobs[i] = y at hx
    try(refine zz ?_;(repeat constructor);intro _)
    refine wp_row (j := 9) H 0 rfl rfl ?_
    refine wp_leno H 2 rfl ?_
    rw [jds_len]
    refine wp_lss_t (by omega) ?_
    try(refine zz ?_;(repeat constructor);intro _)
    refine wp_bind ?_
    try(refine zz ?_;(repeat constructor);intro _)
    refine wp_row (j := 9) H 0 rfl rfl ?_
    refine wp_at (es := 3) H 2 rfl (by rw [jds_len]; exact hlt) fun id off hp => ?_
    try(refine zz ?_;(repeat constructor);intro _)
    refine wp_atL0 H 2 rfl hp (jds_get? hx) rfl ?_
    have stay : LeastTo s (i + 1) a → ∀ S1, Cx B0 W S1 (dOwn x s m ++ R) ro → wp EM (.op (.bin .add (I (i : Int)) (I 1)) fun v8 => .ret .normal [v8, I a]) S1 fun t vs1 S1 => (t = .normal ∧ ∃ a : Int, vs1 = [I ((i + 1 : Nat) : Int), I a] ∧ LeastTo s (i + 1) a ∧ Cx B0 W S1 (dOwn x s m ++ R) ro) ∨ (t ≠ .normal ∧ False) := fun h S1 H => wp_add64 (by omega) (by omega) (wp_ret (.inl ⟨rfl, a, rfl, h, H⟩))
    have turn : LeastTo s (i + 1) (i : Int) → ∀ S1, Cx B0 W S1 (dOwn x s m ++ R) ro → wp EM (.op (.bin .add (I (i : Int)) (I 1)) fun v8 => .ret .normal [v8, I (i : Int)]) S1 fun t vs1 S1 => (t = .normal ∧ ∃ a : Int, vs1 = [I ((i + 1 : Nat) : Int), I a] ∧ LeastTo s (i + 1) a ∧ Cx B0 W S1 (dOwn x s m ++ R) ro) ∨ (t ≠ .normal ∧ False) := fun h S1 H => wp_add64 (by omega) (by omega) (wp_ret (.inl ⟨rfl, i, rfl, h, H⟩))
    have fit : ∀ {t vs1 S1} {P : Prop}, ((t = Tag.normal ∧ ∃ a : Int, vs1 = [I ((i + 1 : Nat) : Int), I a] ∧ LeastTo s (i + 1) a ∧ Cx B0 W S1 (dOwn x s m ++ R) ro) ∨ (t ≠ .normal ∧ False)) → (t = Tag.normal ∧ ∃ a : Int, vs1 = [I ((i + 1 : Nat) : Int), I a] ∧ LeastTo s (i + 1) a ∧ Cx B0 W S1 (dOwn x s m ++ R) ro) ∨ (t ≠ .normal ∧ P) := by
      intro t vs1 S1 P h
      rcases h with h | ⟨_, h⟩
      · exact .inl h
      · exact h.elim
    refine wp_eql (fun h3 => ?_) (fun h3 => ?_)
    · try(refine zz ?_;(repeat constructor);intro _)
      refine wp_lss (fun hneg => ?_) (fun hpos => ?_)
      · try(refine zz ?_;(repeat constructor);intro _)
        refine wp_bind ?_
        try(refine zz ?_;(repeat constructor);intro _)
        refine wp_ret ?_
        show wp EM _ _ _
        refine wp_ret ?_
        show wp EM _ _ _
        refine wp_mono (turn ?_ S1 H) fun t vs1 S1 q => fit q
        rcases hL with ⟨h1, h2⟩ | ⟨n, z, h1, h2, h4⟩
        · refine .inr ⟨i, y, rfl, by omega, hx, h3, fun j w hj hw hst => ?_⟩
          by_cases e : j = i
          · subst e; rw [hx] at hw; cases hw; exact .inr ⟨rfl, Nat.le_refl _⟩
          · exact absurd hst (h2 j w (by omega) hw)
        · omega
      · rcases hL with ⟨h1, h2⟩ | ⟨n, z, h1, h2, h4, h5, h6⟩
        · omega
        subst h1
        have hnl : n < s.jobs.length := by omega
        try(refine zz ?_;(repeat constructor);intro _)
        refine wp_row (j := 9) H 0 rfl rfl ?_
        try(refine zz ?_;(repeat constructor);intro _)
        refine wp_at (es := 3) H 2 rfl (by rw [jds_len]; exact hlt) fun id off hp => ?_
        try(refine zz ?_;(repeat constructor);intro _)
        refine wp_atL H 2 rfl hp (jds_get? hx) (j := 2) rfl ?_
        try(refine zz ?_;(repeat constructor);intro _)
        refine wp_row (j := 9) H 0 rfl rfl ?_
        try(refine zz ?_;(repeat constructor);intro _)
        refine wp_at (es := 3) H 2 rfl (by rw [jds_len]; exact hnl) fun id2 off2 hp2 => ?_
        try(refine zz ?_;(repeat constructor);intro _)
        refine wp_atL H 2 rfl hp2 (jds_get? h4) (j := 2) rfl ?_
        try(refine zz ?_;(repeat constructor);intro _)
        refine wp_lss (fun hk => ?_) (fun hk => ?_)
        · try(refine zz ?_;(repeat constructor);intro _)
          refine wp_bind ?_
          try(refine zz ?_;(repeat constructor);intro _)
          refine wp_ret ?_
          show wp EM _ _ _
          refine wp_ret ?_
          show wp EM _ _ _
          refine wp_mono (turn ?_ S1 H) fun t vs1 S1 q => fit q
          refine .inr ⟨i, y, rfl, by omega, hx, h3, fun j w hj hw hst => ?_⟩
          by_cases e : j = i
          · subst e; rw [hx] at hw; cases hw; exact .inr ⟨rfl, Nat.le_refl _⟩
          · have := h6 j w (by omega) hw hst; omega
        · try(refine zz ?_;(repeat constructor);intro _)
          refine wp_bind ?_
          try(refine zz ?_;(repeat constructor);intro _)
          refine wp_ret ?_
          show wp EM _ _ _
          refine wp_ret ?_
          show wp EM _ _ _
          refine wp_mono (stay ?_ S1 H) fun t vs1 S1 q => fit q
          refine .inr ⟨n, z, rfl, by omega, h4, h5, fun j w hj hw hst => ?_⟩
          by_cases e : j = i
          · subst e; rw [hx] at hw; cases hw; omega
          · exact h6 j w (by omega) hw hst
    · try(refine zz ?_;(repeat constructor);intro _)
      refine wp_bind ?_
      try(refine zz ?_;(repeat constructor);intro _)
      refine wp_ret ?_
      show wp EM _ _ _
      refine wp_ret ?_
      show wp EM _ _ _
      refine wp_mono (stay ?_ S1 H) fun t vs1 S1 q => fit q
      rcases hL with ⟨h1, h2⟩ | ⟨n, z, h1, h2, h4, h5, h6⟩
      · refine .inl ⟨h1, fun j w hj hw => ?_⟩
        by_cases e : j = i
        · subst e; rw [hx] at hw; cases hw; exact h3
        · exact h2 j w (by omega) hw
      · refine .inr ⟨n, z, h1, by omega, h4, h5, fun j w hj hw hst => ?_⟩
        by_cases e : j = i
        · subst e; rw [hx] at hw; cases hw; exact absurd hst h3
        · exact h6 j w (by omega) hw hst
  · clear H
    rintro vs S1 ⟨a, rfl, hL, H⟩
    try(refine zz ?_;(repeat constructor);intro _)
    refine wp_row (j := 9) H 0 rfl rfl ?_
    refine wp_leno H 2 rfl ?_
    rw [jds_len]
    refine wp_lss_f (by omega) ?_
    try(refine zz ?_;(repeat constructor);intro _)
    refine wp_ret ⟨by simp, ?_⟩
    show wp EM _ _ _
    exact wp_ret ⟨rfl, a, rfl, hL, H⟩
def MaxTo (l : List Int) (i : Nat) (a : Int) : Prop := (a = -1 ∧ i = 0) ∨ ∃ (c : Nat) (z : Int), a = (c : Int) ∧ c < i ∧ l[c]? = some z ∧ (∀ (j : Nat) y, j < i → l[j]? = some y → y ≤ z) ∧ ∀ (j : Nat) y, j < c → l[j]? = some y → y < z
theorem rworst_ok {S : AH} {v : AV} {l : List Int} {key : Int} (hl : l.length < 1000000) (hv : RoSl S v 1 (uints l)) : wpC EM (.fn (.func 81) [] []) [v, U key] S fun r S' => ((l = [] ∧ r = .tup [I (-1), B false]) ∨ ∃ (c : Nat) (w : Int), IsMax l c ∧ l[c]? = some w ∧ r = if w ≤ key then .tup [I (-1), B false] else .tup [I (c : Int), B true]) ∧ Grows S S' := by
  refine wpC_fn (b := Tryz.a81) rfl rfl ?_
  have H := Cx.ro1 hv
  unfold Tryz.a81 Tryz.a81x5 Tryz.a81x4 Tryz.a81x3 Tryz.a81x2 Tryz.a81x1 Tryz.a81x0
  refine wp_bind (wp_loop (wpL_for l.length (fun i vs S1 => ∃ a : Int, vs = [I (i : Int), I a] ∧ MaxTo l i a ∧ Cx S [] S1 [] [.sl v 1 (uints l)]) ?_ ?_ ⟨-1, rfl, .inl ⟨rfl, rfl⟩, H⟩))
  · clear H
    rintro i vs S1 hlt ⟨a, rfl, hM, H⟩
    have hx : l[i]? = some l[i] := List.getElem?_eq_getElem hlt
    generalize l[i] = y at hx
    try(refine zz ?_;(repeat constructor);intro _)
    refine wp_len H (v := v) (es := 1) (L := uints l) (by repeat (first | exact List.Mem.head _ | apply List.Mem.tail)) ?_
    rw [uints_len]
    refine wp_lss_t (by omega) ?_
    try(refine zz ?_;(repeat constructor);intro _)
    refine wp_bind ?_
    have turn : MaxTo l (i + 1) (i : Int) → ∀ S1, Cx S [] S1 [] [.sl v 1 (uints l)] → wp EM (.op (.bin .add (I (i : Int)) (I 1)) fun v8 => .ret .normal [v8, I (i : Int)]) S1 fun t vs1 S1 => (t = .normal ∧ ∃ a : Int, vs1 = [I ((i + 1 : Nat) : Int), I a] ∧ MaxTo l (i + 1) a ∧ Cx S [] S1 [] [.sl v 1 (uints l)]) ∨ (t ≠ .normal ∧ False) := fun h S1 H => wp_add64 (by omega) (by omega) (wp_ret (.inl ⟨rfl, i, rfl, h, H⟩))
    have stay : MaxTo l (i + 1) a → ∀ S1, Cx S [] S1 [] [.sl v 1 (uints l)] → wp EM (.op (.bin .add (I (i : Int)) (I 1)) fun v8 => .ret .normal [v8, I a]) S1 fun t vs1 S1 => (t = .normal ∧ ∃ a : Int, vs1 = [I ((i + 1 : Nat) : Int), I a] ∧ MaxTo l (i + 1) a ∧ Cx S [] S1 [] [.sl v 1 (uints l)]) ∨ (t ≠ .normal ∧ False) := fun h S1 H => wp_add64 (by omega) (by omega) (wp_ret (.inl ⟨rfl, a, rfl, h, H⟩))
    have fit : ∀ {t vs1 S1} {P : Prop}, ((t = Tag.normal ∧ ∃ a : Int, vs1 = [I ((i + 1 : Nat) : Int), I a] ∧ MaxTo l (i + 1) a ∧ Cx S [] S1 [] [.sl v 1 (uints l)]) ∨ (t ≠ .normal ∧ False)) → (t = Tag.normal ∧ ∃ a : Int, vs1 = [I ((i + 1 : Nat) : Int), I a] ∧ MaxTo l (i + 1) a ∧ Cx S [] S1 [] [.sl v 1 (uints l)]) ∨ (t ≠ .normal ∧ P) := by
      intro t vs1 S1 P h
      rcases h with h | ⟨_, h⟩
      · exact .inl h
      · exact h.elim
    refine wp_lss (fun hneg => ?_) (fun hpos => ?_)
    · rcases hM with ⟨h1, h2⟩ | ⟨c, z, h1, _⟩
      rotate_left
      · omega
      subst h2
      try(refine zz ?_;(repeat constructor);intro _)
      refine wp_bind ?_
      try(refine zz ?_;(repeat constructor);intro _)
      refine wp_ret ?_
      show wp EM _ _ _
      refine wp_ret ?_
      show wp EM _ _ _
      refine wp_mono (turn (.inr ⟨0, y, rfl, by omega, hx, fun j w hj hw => ?_, fun j w hj => by omega⟩) S1 H) fun t vs1 S1 q => fit q
      have : j = 0 := by omega
      subst this; rw [hx] at hw; cases hw; omega
    · rcases hM with ⟨h1, h2⟩ | ⟨c, z, h1, h2, h3, h4, h5⟩
      · omega
      subst h1
      try(refine zz ?_;(repeat constructor);intro _)
      refine wp_saddr H (by repeat (first | exact List.Mem.head _ | apply List.Mem.tail)) (uints_get? hx) fun p2 o2 H => ?_
      try(refine zz ?_;(repeat constructor);intro _)
      refine wp_load0 H (cs := [U y]) (by repeat (first | exact List.Mem.head _ | apply List.Mem.tail)) rfl ?_
      have H := H.tl
      try(refine zz ?_;(repeat constructor);intro _)
      refine wp_saddr H (by repeat (first | exact List.Mem.head _ | apply List.Mem.tail)) (uints_get? h3) fun p3 o3 H => ?_
      try(refine zz ?_;(repeat constructor);intro _)
      refine wp_load0 H (cs := [U z]) (by repeat (first | exact List.Mem.head _ | apply List.Mem.tail)) rfl ?_
      have H := H.tl
      try(refine zz ?_;(repeat constructor);intro _)
      refine wp_gtr (fun hk => ?_) (fun hk => ?_)
      · try(refine zz ?_;(repeat constructor);intro _)
        refine wp_bind ?_
        try(refine zz ?_;(repeat constructor);intro _)
        refine wp_ret ?_
        show wp EM _ _ _
        refine wp_ret ?_
        show wp EM _ _ _
        refine wp_mono (turn (.inr ⟨i, y, rfl, by omega, hx, fun j w hj hw => ?_, fun j w hj hw => ?_⟩) _ H) fun t vs1 S1 q => fit q
        · by_cases e : j = i
          · subst e; rw [hx] at hw; cases hw; omega
          · have := h4 j w (by omega) hw; omega
        · have := h4 j w hj hw; omega
      · try(refine zz ?_;(repeat constructor);intro _)
        refine wp_bind ?_
        try(refine zz ?_;(repeat constructor);intro _)
        refine wp_ret ?_
        show wp EM _ _ _
        refine wp_ret ?_
        show wp EM _ _ _
        refine wp_mono (stay (.inr ⟨c, z, rfl, by omega, h3, fun j w hj hw => ?_, h5⟩) _ H) fun t vs1 S1 q => fit q
        by_cases e : j = i
        · subst e; rw [hx] at hw; cases hw; omega
        · exact h4 j w (by omega) hw
  · clear H
    rintro vs S1 ⟨a, rfl, hM, H⟩
    try(refine zz ?_;(repeat constructor);intro _)
    refine wp_len H (v := v) (es := 1) (L := uints l) (by repeat (first | exact List.Mem.head _ | apply List.Mem.tail)) ?_
    rw [uints_len]
    refine wp_lss_f (by omega) ?_
    try(refine zz ?_;(repeat constructor);intro _)
    refine wp_ret ⟨by simp, ?_⟩
    show wp EM _ _ _
    rcases hM with ⟨rfl, h2⟩ | ⟨c, z, rfl, h2, h3, h4, h5⟩
    · refine wp_lss_t (by omega) ?_
      try(refine zz ?_;(repeat constructor);intro _)
      exact wp_ret ⟨rfl, .inl ⟨List.eq_nil_of_length_eq_zero h2, rfl⟩, H.grows⟩
    · have hM : IsMax l c := ⟨z, h3, fun j y hy => h4 j y (List.getElem?_eq_some_iff.1 hy).1 hy, h5⟩
      refine wp_lss_f (by omega) ?_
      try(refine zz ?_;(repeat constructor);intro _)
      refine wp_saddr H (by repeat (first | exact List.Mem.head _ | apply List.Mem.tail)) (uints_get? h3) fun p3 o3 H => ?_
      try(refine zz ?_;(repeat constructor);intro _)
      refine wp_load0 H (cs := [U z]) (by repeat (first | exact List.Mem.head _ | apply List.Mem.tail)) rfl ?_
      try(refine zz ?_;(repeat constructor);intro _)
      refine wp_leq (fun h => ?_) (fun h => ?_)
      · try(refine zz ?_;(repeat constructor);intro _)
        exact wp_ret ⟨rfl, .inr ⟨c, z, hM, h3, by rw [if_pos h]; rfl⟩, H.grows⟩
      · try(refine zz ?_;(repeat constructor);intro _)
        exact wp_ret ⟨rfl, .inr ⟨c, z, hM, h3, by rw [if_neg (by omega)]; rfl⟩, H.grows⟩
end
end Go.Abs
namespace Go.Abs
open Go.Proofs
set_option maxRecDepth 100000
set_option linter.unusedVariables false
open Tsk (Tk tks tchk)
section
variable {M : Mach} {B0 S : AH} {W : List Nat} {own : List Own} {ro : List Fct} {Q : Post} {k : AV → AC}
theorem wp_from (H : Cx B0 W S own ro) (n : Nat) {v : AV} {es i : Nat} {L : List (List AV)} (hm : own[n]? = some (.sl v es L)) (hi : i ≤ L.length)
    (h : ∀ v1, Cx B0 W S (own.set n (.sl v1 es (L.drop i))) ro → wp M (k v1) S Q) : wp M (.op (.sslice es v (some (I (i : Int))) none none) k) S Q := by
  have hw : slW S v es L := H.oh _ (List.mem_of_getElem? hm)
  rcases hw with ⟨rfl, rfl⟩ | ⟨id, off, c, h0, h1, h2, h3⟩
  · have : i = 0 := by simpa using hi
    subst this
    refine wp_op (v := Ns) rfl (h Ns ?_)
    rw [List.drop_nil, list_set_self hm]; exact H
  · obtain ⟨v', off', e1, e2, e3⟩ := slForm_from (M := M) (S := S) h0 hi
    refine wp_op e1 (h v' (H.step hm (Nat.le_refl _) (fun j hj hne => rfl) ?_ ?_))
    · refine .inr ⟨id, off', c, by rw [List.length_drop]; exact e2, h1, ?_, fun x hx => h3 x (List.mem_of_mem_drop hx)⟩
      rcases Nat.lt_or_ge i L.length with hlt | hge
      · rw [e3 hlt, ← dr_flat h3 i, ← h2, List.length_drop, ← List.drop_drop, List.drop_take, Nat.sub_mul]
      · rw [List.drop_of_length_le hge]; simp
    · intro j hj
      have hj : j ∈ vids v' := hj
      rw [e2.ids] at hj
      have : j ∈ vids v := by rw [h0.ids]; exact hj
      exact ⟨(H.oi _ (List.mem_of_getElem? hm) j this).1, .inl this⟩
end
section
variable {B0 S : AH} {W : List Nat} {own R : List Own} {ro : List Fct} {Q : Post} {k : AV → AC} {v : AV} {x : Nat} {s : Ms} {m : Mv}
set_option maxHeartbeats 1000000 in
theorem rbalance_ok (wf : s.Wf) (H : Cx B0 W S (dOwn x s m ++ R) ro) : wpC EM (.fn (.func 62) [] []) [.ptr x 0] S fun _ S' => ∃ s', Bal s s' ∧ Cx B0 W S' (dOwn x s' m ++ R) ro := by
  refine wpC_fn (b := Tryz.a62) rfl rfl ?_
  unfold Tryz.a62 Tryz.a62x10 Tryz.a62x9 Tryz.a62x8 Tryz.a62x7 Tryz.a62x6 Tryz.a62x5 Tryz.a62x4 Tryz.a62x3 Tryz.a62x2 Tryz.a62x1 Tryz.a62x0
  refine wp_call (wpC_mono (rleast_ok wf H) fun l S1 q => ?_)
  obtain ⟨a, rfl, hL, H⟩ := q
  rcases hL.done wf with ⟨rfl, h0⟩ | ⟨z, rfl, hz0, hz⟩
  · refine wp_lss_t (by omega) ?_
    try(refine zz ?_;(repeat constructor);intro _)
    exact wp_ret ⟨rfl, s, .inl ⟨h0, rfl⟩, H⟩
  refine wp_lss_f (by omega) ?_
  obtain ⟨n, hzn, hjz⟩ := wf.of_mem (List.mem_filter.1 hz.1).1
  have hnl := (List.getElem?_eq_some_iff.1 hjz).1
  try(refine zz ?_;(repeat constructor);intro _)
  have hrl := wf.rl
  have hc := wf.c64
  have H := H.addNilS 1
  refine wp_bind (wp_loop (wpL_for s.runs.length (fun i vs S1 => ∃ w u : AV, vs = [I (i : Int), w, u] ∧ Cx B0 W S1 (.sl w 1 (uints (s.words.take i)) :: (dOwn x s m ++ R)) ro) ?_ ?_ ⟨_, _, rfl, H⟩))
  · clear H
    rintro i vs S1 hlt ⟨w, u, rfl, H⟩
    have hr : s.runs[i]? = some s.runs[i] := List.getElem?_eq_getElem hlt
    have hrb := wf.rb _ (List.mem_of_getElem? hr)
    generalize s.runs[i] = r at hr hrb
    have hwt := words_take hr
    try(refine zz ?_;(repeat constructor);intro _)
    refine wp_row (j := 12) H 1 rfl rfl ?_
    refine wp_leno H 6 rfl ?_
    rw [ints_len]
    refine wp_lss_t (by omega) ?_
    try(refine zz ?_;(repeat constructor);intro _)
    refine wp_bind ?_
    try(refine zz ?_;(repeat constructor);intro _)
    refine wp_row (j := 12) H 1 rfl rfl ?_
    refine wp_at (es := 1) H 6 rfl (by rw [ints_len]; exact hlt) fun id off hp => ?_
    refine wp_atL0 H 6 rfl hp (ints_get? hr) rfl ?_
    have fin : ∀ {S2 : AH}, Cx B0 W S2 (.sl w 1 (uints (s.words.take i)) :: (dOwn x s m ++ R)) ro → wp EM (.op (.bslice 1 1 [U 0] [(0, 1, U (s.word r))]) fun v14 => .op (.append 1 8 w v14) fun v15 => .ret .normal [v15, U (s.word r)]) S2 fun t vs1 S1 => t = .normal ∧ ∃ w u, vs1 = [w, u] ∧ Cx B0 W S1 (.sl w 1 (uints (s.words.take (i + 1))) :: (dOwn x s m ++ R)) ro := by
      intro S2 H
      have hlw : (uints (s.words.take i)).length ≤ 64 := by rw [uints_len, List.length_take]; unfold Ms.words; rw [List.length_map]; omega
      refine wp_push (x := U (s.word r)) H 0 rfl rfl rfl rfl (by unfold maxBytes; omega) (by unfold maxLenN; omega) fun v1 S3 H => ?_
      refine wp_ret ⟨rfl, _, _, rfl, ?_⟩
      rw [hwt, uints_app]; exact H
    refine wp_geq (fun hne => ?_) (fun he => ?_)
    · refine wp_bind ?_
      try(refine zz ?_;(repeat constructor);intro _)
      refine wp_row (j := 9) H 1 rfl rfl ?_
      try(refine zz ?_;(repeat constructor);intro _)
      refine wp_row (j := 12) H 1 rfl rfl ?_
      refine wp_at (es := 1) H 6 rfl (by rw [ints_len]; exact hlt) fun id off hp => ?_
      refine wp_atL0 H 6 rfl hp (ints_get? hr) rfl ?_
      obtain ⟨n, rfl⟩ : ∃ n : Nat, r = (n : Int) := ⟨r.toNat, by omega⟩
      have hn : n < s.jobs.length := by omega
      have hjx : s.jobs[n]? = some s.jobs[n] := List.getElem?_eq_getElem hn
      refine wp_at (es := 3) H 3 rfl (by rw [jds_len]; exact hn) fun id2 off2 hp2 => ?_
      try(refine zz ?_;(repeat constructor);intro _)
      refine wp_atL H 3 rfl hp2 (jds_get? hjx) (j := 2) rfl ?_
      refine wp_ret ?_
      have e : s.word (n : Int) = s.jobs[n].key := by
        unfold Ms.word
        rw [if_neg (by omega), Int.toNat_natCast, hjx]
      rw [e] at fin
      refine wp_mono (fin H) fun t vs1 S3 q => ?_
      obtain ⟨rfl, w2, u2, rfl, H⟩ := q
      show wp EM _ _ _
      refine wp_add64 (by omega) (by omega) (wp_ret (.inl ⟨rfl, w2, u2, rfl, H⟩))
    · have he : r = -1 := by omega
      subst he
      refine wp_bind ?_
      try(refine zz ?_;(repeat constructor);intro _)
      refine wp_ret ?_
      have e : s.word (-1) = 18446744073709551615 := rfl
      rw [e] at fin
      refine wp_mono (fin H) fun t vs1 S3 q => ?_
      obtain ⟨rfl, w2, u2, rfl, H⟩ := q
      show wp EM _ _ _
      refine wp_add64 (by omega) (by omega) (wp_ret (.inl ⟨rfl, w2, u2, rfl, H⟩))
  · clear H
    rintro vs S1 ⟨w, u, rfl, H⟩
    have hwl : s.words.length = s.runs.length := List.length_map ..
    rw [← hwl, List.take_length] at H
    try(refine zz ?_;(repeat constructor);intro _)
    refine wp_row (j := 12) H 1 rfl rfl ?_
    refine wp_leno H 6 rfl ?_
    rw [ints_len]
    refine wp_lss_f (by omega) ?_
    try(refine zz ?_;(repeat constructor);intro _)
    refine wp_ret ⟨by simp, ?_⟩
    show wp EM _ _ _
    try(refine zz ?_;(repeat constructor);intro _)
    refine wp_row (j := 9) H 1 rfl rfl ?_
    rw [hzn]
    refine wp_at (es := 3) H 3 rfl (by rw [jds_len]; exact hnl) fun id off hp => ?_
    try(refine zz ?_;(repeat constructor);intro _)
    refine wp_atL H 3 rfl hp (jds_get? hjz) (j := 2) rfl ?_
    refine wp_callG H (rworst_ok (l := s.words) (key := z.key) (by omega) (H.ownSl (n := 0) rfl)) fun r S2 hr H => ?_
    have H0 := H.dropAt 0
    rcases hr with ⟨h0, _⟩ | ⟨c, w, h1, h2, hr⟩
    · rw [h0] at hwl; simp at hwl; omega
    by_cases hle : w ≤ z.key
    · rw [if_pos hle] at hr
      subst hr
      try(refine zz ?_;(repeat constructor);intro _)
      refine wp_bind ?_
      try(refine zz ?_;(repeat constructor);intro _)
      refine wp_ret ?_
      show wp EM _ _ _
      exact wp_ret ⟨rfl, s, .inr ⟨z, c, w, hz, h1, h2, by rw [if_pos hle]⟩, H0⟩
    · rw [if_neg hle] at hr
      subst hr
      have hcl : c < s.flags.length := by
        have := (List.getElem?_eq_some_iff.1 h2).1
        have := wf.gl
        omega
      try(refine zz ?_;(repeat constructor);intro _)
      refine wp_bind ?_
      try(refine zz ?_;(repeat constructor);intro _)
      refine wp_row (j := 13) H 1 rfl rfl ?_
      refine wp_at (es := 1) H 7 rfl (by rw [bls_len]; exact hcl) fun id2 off2 hp2 => ?_
      refine wp_atS0 H 7 rfl hp2 (bls_get hcl) rfl rfl (by omega) (by simp) fun S3 H => ?_
      have e : (bls s.flags).set c ([B s.flags[c]].set 0 (B true)) = bls (s.flags.set c true) := bls_set ..
      rw [e] at H
      refine wp_ret ?_
      show wp EM _ _ _
      refine wp_ret ⟨rfl, { s with flags := s.flags.set c true }, .inr ⟨z, c, w, hz, h1, h2, by rw [if_neg hle]⟩, ?_⟩
      exact H.dropAt 0
theorem wp_tellT {t : Nat} {c : List AV} {a b : Int} {e : Int} {u : AV} (hu : u = .agg [I a, U b]) (hc : c.length = 2) (H : Cx B0 W S (.obj t (.row c) :: own) ro) (h : ∀ S', Cx B0 W S' own ro → Q .ret [u, I e] S') :
    wp EM (.op (.store 2 (.ptr t 0) u) fun _ => .ret .ret [.ptr t 0, I e]) S (fun tg vs S' => (tg = .normal ∨ tg = .ret) ∧ wp EM (.op (.load 2 true (nth vs 0)) fun v2 => .ret .ret [v2, (nth vs 1)]) S' Q) := by
  subst hu
  match c, hc with
  | [c0, c1], _ =>
  refine wp_store H 0 rfl rfl rfl (Nat.le_refl _) fun S1 H => ?_
  refine wp_ret ⟨.inr rfl, ?_⟩
  refine wp_loadoa (n := 2) H 0 rfl (Nat.le_refl _) ?_
  exact wp_ret (h S1 (H.dropAt 0))
theorem rtold_ok {n : Nat} {y : Lv} (hy : s.jobs[n]? = some y) (H : Cx B0 W S (dOwn x s m ++ R) ro) : wpC EM (.fn (.func 61) [] []) [.ptr x 0, I (n : Int)] S fun r S' => r = .agg [I (n : Int), U y.key] ∧ Cx B0 W S' (dOwn x s m ++ R) ro := by
  refine wpC_fn (b := Tryz.a61) rfl rfl ?_
  unfold Tryz.a61 Tryz.a61x0
  refine wp_fin ?_
  refine wp_alloc H fun t S1 H => ?_
  try(refine zz ?_;(repeat constructor);intro _)
  refine wp_row (j := 9) H 1 rfl rfl ?_
  have hnl := (List.getElem?_eq_some_iff.1 hy).1
  refine wp_at (es := 3) H 3 rfl (by rw [jds_len]; exact hnl) fun id off hp => ?_
  try(refine zz ?_;(repeat constructor);intro _)
  refine wp_atL H 3 rfl hp (jds_get? hy) (j := 2) rfl ?_
  refine wp_op (v := .agg [I (n : Int), U y.key]) rfl ?_
  refine wp_store H 0 rfl rfl rfl (Nat.le_refl _) fun S2 H => ?_
  refine wp_ret ⟨.inr rfl, ?_⟩
  refine wp_loadoa (n := 2) H 0 rfl (Nat.le_refl _) ?_
  exact wp_ret ⟨rfl, rfl, H.dropAt 0⟩
end
end Go.Abs
namespace Go.Abs
open Go.Proofs
set_option maxRecDepth 100000
set_option linter.unusedVariables false
open Tsk (Tk tks tchk)
section
variable {B0 S : AH} {W : List Nat} {own R : List Own} {ro : List Fct} {Q : Post} {k : AV → AC} {v : AV} {x : Nat} {s : Ms} {m : Mv}
theorem wp_mk1 (H : Cx B0 W S own ro) {z y : AV} (hy : odd y = false) (ly : y.cells = [y]) (h : ∀ v S1, Cx B0 W S1 (.sl v 1 [[y]] :: own) ro → wp EM (k v) S1 Q) : wp EM (.op (.bslice 1 1 [z] [(0, 1, y)]) k) S Q := by
  refine wp_op (v := .sl S.next 0 1 1) (S1 := S.new (.row [y])) ?_ (h _ _ (H.addOwn (Grows.new S _) (x := .sl (.sl S.next 0 1 1) 1 [[y]]) ?_ ?_))
  · show nBslice 1 1 [z] [(0, 1, y)] S = _
    unfold nBslice
    have e1 : fillP (repZero [z] 1) [(0, 1, y)] = some [y] := by
      simp only [fillP, hy, ly]
      rfl
    rw [e1]
    rfl
  · exact .inr ⟨S.next, 0, [y], .inl ⟨1, by simp, by simp, rfl⟩, get_new_same _ _, by simp, by simp⟩
  · intro id hid
    simp only [Own.ids, vids, List.mem_singleton] at hid
    subst hid
    exact ⟨Nat.le_refl _, by simp [AH.new]⟩
theorem Cx.inn {a : Own} {l : List Own} (H : Cx B0 W S (a :: (l ++ R)) ro) : Cx B0 W S (l ++ a :: R) ro := H.perm List.perm_middle.symm
theorem Cx.outn {a : Own} {l : List Own} (H : Cx B0 W S (l ++ a :: R) ro) : Cx B0 W S (a :: (l ++ R)) ro := H.perm List.perm_middle
def DTup (x : Nat) (s : Ms) (m : Mv) (B0 : AH) (W : List Nat) (R : List Own) (ro : List Fct) (P : Int → Int → Ms → Prop) (u : AV) (S' : AH) : Prop :=
  ∃ r e s' m', u = .tup [told s' r e, I e] ∧ P r e s' ∧ m'.bx.length = s'.mail.length ∧ m'.vt = m.vt ∧ Cx B0 W S' (dOwn x s' m' ++ R) ro
theorem told_no {s : Ms} {r e : Int} (h : e ≠ 0 ∨ r = -1) : told s r e = .agg [I 0, U 0] := by unfold told; rw [if_neg (by omega)]
theorem told_at {s : Ms} {n : Nat} {y : Lv} (h : s.jobs[n]? = some y) : told s (n : Int) 0 = .agg [I (n : Int), U y.key] := by
  unfold told keyAt
  rw [if_pos ⟨rfl, by omega⟩, Int.toNat_natCast, h]
theorem wp_none {t : Nat} {c : List AV} {e : Int} (hc : c.length = 2) (H : Cx B0 W S (.obj t (.row c) :: own) ro) (h : ∀ S', Cx B0 W S' own ro → Q .ret [.agg [I 0, U 0], I e] S') :
    wp EM (.op (.build [(I 0), (U 0)] []) fun u => .op (.store 2 (.ptr t 0) u) fun _ => .ret .ret [.ptr t 0, I e]) S (fun tg vs S' => (tg = .normal ∨ tg = .ret) ∧ wp EM (.op (.load 2 true (nth vs 0)) fun v2 => .ret .ret [v2, (nth vs 1)]) S' Q) := by
  refine wp_op (v := .agg [I 0, U 0]) rfl ?_
  exact wp_tellT rfl hc H h
set_option maxHeartbeats 1000000 in
theorem rpick_ok {c : Nat} (wf : s.Wf) (hbx : m.bx.length = s.mail.length) (hc : (c : Int) < s.su.cores) (H : Cx B0 W S (dOwn x s m ++ R) ro) :
    wpC EM (.fn (.func 34) [] []) [.ptr x 0, I (c : Int)] S (DTup x s m B0 W R ro (PickR s c)) := by
  refine wpC_fn (b := Tryz.a34) rfl rfl ?_
  unfold Tryz.a34 Tryz.a34x5 Tryz.a34x4 Tryz.a34x3 Tryz.a34x2 Tryz.a34x1 Tryz.a34x0
  have hrl := wf.rl
  have hcl : c < s.runs.length := by omega
  have hr : s.runs[c]? = some s.runs[c] := List.getElem?_eq_getElem hcl
  generalize s.runs[c] = i at hr
  have hrb := wf.rb _ (List.mem_of_getElem? hr)
  refine wp_fin ?_
  refine wp_alloc H fun t S1 H => ?_
  try(refine zz ?_;(repeat constructor);intro _)
  refine wp_row (j := 12) H 1 rfl rfl ?_
  refine wp_at (es := 1) H 6 rfl (by rw [ints_len]; exact hcl) fun id off hp => ?_
  refine wp_atL0 H 6 rfl hp (ints_get? hr) rfl ?_
  refine wp_geq (fun h0 => ?_) (fun h0 => ?_)
  · try(refine zz ?_;(repeat constructor);intro _)
    refine wp_none rfl H fun S' H => ⟨rfl, -1, 11, s, m, by rw [told_no (.inl (by omega))]; rfl, .inl ⟨i, hr, by omega, rfl, rfl, rfl⟩, hbx, rfl, H⟩
  have hi : i = -1 := by omega
  subst hi
  try(refine zz ?_;(repeat constructor);intro _)
  refine wp_call (wpC_mono (rleast_ok wf (Cx.inn H)) fun l S1 q => ?_)
  obtain ⟨a, rfl, hL, H⟩ := q
  have H := Cx.outn H
  rcases hL.done wf with ⟨rfl, h0⟩ | ⟨z, rfl, hz0, hz⟩
  · refine wp_lss_t (by omega) ?_
    try(refine zz ?_;(repeat constructor);intro _)
    refine wp_none rfl H fun S' H => ⟨rfl, -1, 15, s, m, by rw [told_no (.inl (by omega))]; rfl, .inr (.inl ⟨hr, h0, rfl, rfl, rfl⟩), hbx, rfl, H⟩
  refine wp_lss_f (by omega) ?_
  obtain ⟨n, hzn, hjz⟩ := wf.of_mem (List.mem_filter.1 hz.1).1
  have hnl := (List.getElem?_eq_some_iff.1 hjz).1
  try(refine zz ?_;(repeat constructor);intro _)
  refine wp_row (j := 9) H 1 rfl rfl ?_
  rw [hzn]
  refine wp_at (es := 3) H 3 rfl (by rw [jds_len]; exact hnl) fun id2 off2 hp2 => ?_
  try(refine zz ?_;(repeat constructor);intro _)
  refine wp_atS0 H 3 rfl hp2 (jds_get? hjz) rfl rfl (by omega) (by simp [Lv.ds]) fun S2 H => ?_
  have e2 : (jds s.jobs).set n (z.ds.set 0 (I 4)) = jds (s.jobs.set n { z with st := 4 }) := jds_set s.jobs n { z with st := 4 }
  rw [e2] at H
  have hj1 : (s.jobs.set n { z with st := 4 })[n]? = some { z with st := 4 } := by rw [List.getElem?_set]; simp [hnl]
  have H : Cx B0 W S2 (.obj t (.row [I 0, U 0]) :: (dOwn x { s with jobs := s.jobs.set n { z with st := 4 } } m ++ R)) ro := H
  try(refine zz ?_;(repeat constructor);intro _)
  refine wp_row (j := 9) H 1 rfl rfl ?_
  refine wp_at (es := 3) (i := n) H 3 rfl (by rw [jds_len, List.length_set]; exact hnl) fun id3 off3 hp3 => ?_
  try(refine zz ?_;(repeat constructor);intro _)
  refine wp_atS H 3 rfl hp3 (jds_get? hj1) (j := 1) rfl rfl (by omega) (by simp [Lv.ds]) fun S3 H => ?_
  have e3 : (jds (s.jobs.set n { z with st := 4 })).set n (({ z with st := 4 } : Lv).ds.set 1 (I (c : Int))) = jds (s.jobs.set n ⟨z.job, 4, c, z.key⟩) := by
    have := jds_set (s.jobs.set n { z with st := 4 }) n ⟨z.job, 4, c, z.key⟩
    rw [List.set_set] at this
    exact this
  have H : Cx B0 W S3 ((.obj t (.row [I 0, U 0]) :: (dOwn x s m ++ R)).set 3 (.sl m.vj 3 ((jds (s.jobs.set n { z with st := 4 })).set n (({ z with st := 4 } : Lv).ds.set 1 (I (c : Int)))))) ro := H
  rw [e3] at H
  have H : Cx B0 W S3 (.obj t (.row [I 0, U 0]) :: (dOwn x { s with jobs := s.jobs.set n ⟨z.job, 4, c, z.key⟩ } m ++ R)) ro := H
  try(refine zz ?_;(repeat constructor);intro _)
  refine wp_row (j := 12) H 1 rfl rfl ?_
  refine wp_at (es := 1) (i := c) H 6 rfl (by rw [ints_len]; exact hcl) fun id4 off4 hp4 => ?_
  refine wp_atS0 H 6 rfl hp4 (ints_get? hr) rfl rfl (by omega) (by simp) fun S4 H => ?_
  have e4 : (ints s.runs).set c ([I (-1)].set 0 (I (n : Int))) = ints (s.runs.set c (n : Int)) := ints_set _ _ _
  rw [e4] at H
  have ecl : s.claim c z = { s with jobs := s.jobs.set n ⟨z.job, 4, c, z.key⟩, runs := s.runs.set c (n : Int) } := by
    unfold Ms.claim
    rw [hzn, Int.toNat_natCast]
  have H : Cx B0 W S4 (.obj t (.row [I 0, U 0]) :: (dOwn x (s.claim c z) m ++ R)) ro := by rw [ecl]; exact H
  refine wp_call (wpC_mono (rbalance_ok (wf.claim (c := c) hz) (Cx.inn H)) fun _ S5 q => ?_)
  obtain ⟨s', hb, H⟩ := q
  have hsm := hb.same
  have hjn : s'.jobs[n]? = some ⟨z.job, 4, c, z.key⟩ := by rw [hsm.1, ecl]; show (s.jobs.set n _)[n]? = _; rw [List.getElem?_set]; simp [hnl]
  refine wp_call (wpC_mono (rtold_ok hjn H) fun _ S6 q => ?_)
  obtain ⟨rfl, H⟩ := q
  have H := Cx.outn H
  refine wp_tellT rfl rfl H fun S' H => ⟨rfl, n, 0, s', m, by rw [told_at hjn]; rfl, .inr (.inr ⟨z, hr, hz, hzn.symm, rfl, hb⟩), ?_, rfl, H⟩
  rw [hbx, hb.same.2.2.2.2.1]; rfl
set_option maxHeartbeats 1000000 in
theorem rtake_ok {c : Nat} (wf : s.Wf) (hbx : m.bx.length = s.mail.length) (hc : (c : Int) < s.su.cores) (H : Cx B0 W S (dOwn x s m ++ R) ro) :
    wpC EM (.fn (.func 33) [] []) [.ptr x 0, I (c : Int)] S (DTup x s m B0 W R ro (TakeR s c)) := by
  refine wpC_fn (b := Tryz.a33) rfl rfl ?_
  unfold Tryz.a33 Tryz.a33x6 Tryz.a33x5 Tryz.a33x4 Tryz.a33x3 Tryz.a33x2 Tryz.a33x1 Tryz.a33x0
  have hml := wf.ml
  have hcl : c < s.mail.length := by omega
  have h1 : m.bx[c]? = some (m.bx[c]'(by omega)) := List.getElem?_eq_getElem _
  generalize m.bx[c]'(by omega) = bo at h1
  have h2 : s.mail[c]? = some s.mail[c] := List.getElem?_eq_getElem hcl
  generalize s.mail[c] = bl at h2
  refine wp_fin ?_
  refine wp_alloc H fun t S1 H => ?_
  have H : Cx B0 W S1 (.obj t (.row [I 0, U 0]) :: (dOwnG x s m m.bx ++ R)) ro := H
  try(refine zz ?_;(repeat constructor);intro _)
  refine wp_row (j := 11) H 1 rfl rfl ?_
  refine wp_at (es := 1) H 5 rfl (by rw [ptrs_len]; omega) fun id off hp => ?_
  refine wp_atL0 H 5 rfl hp (ptrs_get? h1) rfl ?_
  have hg := dbox_get (x := x) (m := m) (R := R) h1 h2
  refine wp_leno H (c + 8) hg ?_
  rw [ints_len]
  refine wp_eql (fun h0 => ?_) (fun h0 => ?_)
  · try(refine zz ?_;(repeat constructor);intro _)
    have : bl = [] := List.eq_nil_of_length_eq_zero (by omega)
    subst this
    refine wp_none rfl H fun S' H => ⟨rfl, -1, 15, s, m, by rw [told_no (.inl (by omega))]; rfl, .inl ⟨h2, rfl, rfl, rfl⟩, hbx, rfl, H⟩
  cases bl with
  | nil => simp at h0
  | cons i l =>
  have hm := wf.mb _ (List.mem_of_getElem? h2)
  have hib := hm.2 i (List.mem_cons_self ..)
  obtain ⟨n, rfl⟩ : ∃ n : Nat, i = (n : Int) := ⟨i.toNat, by omega⟩
  have hn : n < s.jobs.length := by omega
  obtain ⟨y, hy, hyj⟩ := wf.job hn
  try(refine zz ?_;(repeat constructor);intro _)
  refine wp_row (j := 11) H 1 rfl rfl ?_
  refine wp_at (es := 1) H 5 rfl (by rw [ptrs_len]; omega) fun id3 off3 hp3 => ?_
  refine wp_atL0 H 5 rfl hp3 (ptrs_get? h1) rfl ?_
  refine wp_at (es := 1) (i := 0) H (c + 8) (dbox_get (x := x) (m := m) (R := R) h1 h2) (by simp [ints]) fun id2 off2 hp2 => ?_
  refine wp_atL0 H (c + 8) (dbox_get (x := x) (m := m) (R := R) h1 h2) hp2 (x := [I (n : Int)]) rfl rfl ?_
  try(refine zz ?_;(repeat constructor);intro _)
  refine wp_row (j := 11) H 1 rfl rfl ?_
  try(refine zz ?_;(repeat constructor);intro _)
  refine wp_row (j := 11) H 1 rfl rfl ?_
  refine wp_at (es := 1) H 5 rfl (by rw [ptrs_len]; omega) fun id4 off4 hp4 => ?_
  refine wp_atL0 H 5 rfl hp4 (ptrs_get? h1) rfl ?_
  refine wp_from (i := 1) H (c + 8) (dbox_get (x := x) (m := m) (R := R) h1 h2) (by simp [ints]) fun u H => ?_
  have H : Cx B0 W S1 (.obj t (.row [I 0, U 0]) :: (dOwnG x s m m.bx ++ R).set (c + 7) (boxO u l)) ro := H
  rw [dbox_set h1 h2] at H
  have hbz : (m.bx.set c u)[c]? = some u := by rw [List.getElem?_set]; simp; omega
  have hmz : ({ s with mail := s.mail.set c l } : Ms).mail[c]? = some l := by show (s.mail.set c l)[c]? = _; rw [List.getElem?_set]; simp [hcl]
  obtain ⟨ho1, ho2⟩ := slOk_odd1 (ownSl_ok (H.oh _ (List.mem_of_getElem? (i := c + 8) (dbox_get (x := x) (s := { s with mail := s.mail.set c l }) (m := m) (R := R) hbz hmz))))
  refine wp_at (es := 1) (i := c) H 5 rfl (by rw [ptrs_len]; omega) fun id5 off5 hp5 => ?_
  refine wp_atS0 H 5 rfl hp5 (ptrs_get? h1) ho1 ho2 (by omega) (by simp) fun S3 H => ?_
  have e1 : (ptrs m.bx).set c ([bo].set 0 u) = ptrs (m.bx.set c u) := ptrs_set _ _ _
  rw [e1] at H
  have H : Cx B0 W S3 (.obj t (.row [I 0, U 0]) :: (dOwn x { s with mail := s.mail.set c l } { m with bx := m.bx.set c u } ++ R)) ro := H
  try(refine zz ?_;(repeat constructor);intro _)
  refine wp_row (j := 9) H 1 rfl rfl ?_
  refine wp_at (es := 3) (i := n) H 3 rfl (by rw [jds_len]; exact hn) fun id off hp => ?_
  try(refine zz ?_;(repeat constructor);intro _)
  refine wp_atS0 H 3 rfl hp (jds_get? hy) rfl rfl (by omega) (by simp [Lv.ds]) fun S4 H => ?_
  have e2 : (jds s.jobs).set n (y.ds.set 0 (I 3)) = jds (s.jobs.set n { y with st := 3 }) := jds_set s.jobs n { y with st := 3 }
  rw [e2] at H
  have etk : s.takes c y l = { s with mail := s.mail.set c l, jobs := s.jobs.set n { y with st := 3 } } := by
    have e3 : y.job.toNat = n := by rw [hyj]; simp
    unfold Ms.takes
    rw [e3]
  have H : Cx B0 W S4 (.obj t (.row [I 0, U 0]) :: (dOwn x (s.takes c y l) { m with bx := m.bx.set c u } ++ R)) ro := by rw [etk]; exact H
  have hy' : s.jobs[((n : Int)).toNat]? = some y := by simpa using hy
  refine wp_call (wpC_mono (rbalance_ok (wf.takes h2 hy') (Cx.inn H)) fun _ S5 q => ?_)
  obtain ⟨s', hb, H⟩ := q
  have hsm := hb.same
  have hjn : s'.jobs[n]? = some { y with st := 3 } := by rw [hsm.1, etk]; show (s.jobs.set n _)[n]? = _; rw [List.getElem?_set]; simp [hn]
  refine wp_call (wpC_mono (rtold_ok hjn H) fun _ S6 q => ?_)
  obtain ⟨rfl, H⟩ := q
  have H := Cx.outn H
  refine wp_tellT rfl rfl H fun S' H => ⟨rfl, n, 0, s', { m with bx := m.bx.set c u }, by rw [told_at hjn]; rfl, .inr ⟨n, l, y, h2, hy', rfl, rfl, hb⟩, ?_, rfl, H⟩
  rw [hsm.2.2.2.2.1]
  show (m.bx.set c u).length = (s.mail.set c l).length
  simp [hbx]
end
end Go.Abs
namespace Go.Abs
open Go.Proofs
set_option maxRecDepth 100000
set_option linter.unusedVariables false
open Tsk (Tk tks tchk tks_get)
theorem ints_one (l : List Int) : ∀ x ∈ ints l, x.length = 1 := by intro x hx; obtain ⟨n, _, rfl⟩ := List.mem_map.1 hx; rfl
section
variable {B0 S : AH} {W : List Nat} {own R : List Own} {ro : List Fct} {Q : Post} {k : AV → AC} {v : AV} {x : Nat} {s : Ms} {m : Mv}
set_option maxHeartbeats 1000000 in
theorem rcomplete_ok {c : Nat} (wf : s.Wf) (hbx : m.bx.length = s.mail.length) (hc : (c : Int) < s.su.cores) (hf : ∀ i, s.runs[c]? = some i → i ≠ -1 → s.free.length < s.jobs.length) (H : Cx B0 W S (dOwn x s m ++ R) ro) :
    wpC EM (.fn (.func 36) [] []) [.ptr x 0, I (c : Int)] S (DTup x s m B0 W R ro (EndR s c)) := by
  refine wpC_fn (b := Tryz.a36) rfl rfl ?_
  unfold Tryz.a36 Tryz.a36x6 Tryz.a36x5 Tryz.a36x4 Tryz.a36x3 Tryz.a36x2 Tryz.a36x1 Tryz.a36x0
  have hrl := wf.rl
  have hcl : c < s.runs.length := by omega
  have hr : s.runs[c]? = some s.runs[c] := List.getElem?_eq_getElem hcl
  generalize s.runs[c] = i at hr
  have hrb := wf.rb _ (List.mem_of_getElem? hr)
  refine wp_fin ?_
  refine wp_alloc H fun t S1 H => ?_
  try(refine zz ?_;(repeat constructor);intro _)
  refine wp_row (j := 12) H 1 rfl rfl ?_
  refine wp_at (es := 1) H 6 rfl (by rw [ints_len]; exact hcl) fun id off hp => ?_
  refine wp_atL0 H 6 rfl hp (ints_get? hr) rfl ?_
  refine wp_lss (fun h0 => ?_) (fun h0 => ?_)
  · have hi : i = -1 := by omega
    subst hi
    try(refine zz ?_;(repeat constructor);intro _)
    refine wp_none rfl H fun S' H => ⟨rfl, -1, 15, s, m, by rw [told_no (.inl (by omega))]; rfl, .inl ⟨hr, rfl, rfl, rfl⟩, hbx, rfl, H⟩
  have hf := hf i hr (by omega)
  obtain ⟨n, rfl, y, hy, hyj⟩ := wf.run hr (by omega)
  have hn := (List.getElem?_eq_some_iff.1 hy).1
  try(refine zz ?_;(repeat constructor);intro _)
  refine wp_call (wpC_mono (rtold_ok hy (Cx.inn H)) fun _ S2 q => ?_)
  obtain ⟨rfl, H⟩ := q
  refine wp_alloc H fun q S3 H => ?_
  refine wp_store H 0 rfl rfl rfl (Nat.le_refl _) fun S4 H => ?_
  have H : Cx B0 W S4 (.obj q (.row [I (n : Int), U y.key]) :: (dOwn x s m ++ .obj t (.row [I 0, U 0]) :: R)) ro := H
  try(refine zz ?_;(repeat constructor);intro _)
  refine wp_row (j := 9) H 1 rfl rfl ?_
  try(refine zz ?_;(repeat constructor);intro _)
  refine wp_row (j := 1) H 0 rfl rfl ?_
  refine wp_op (v := .agg [I 1, I 0, U y.key]) rfl ?_
  refine wp_at (es := 3) (i := n) H 3 rfl (by rw [jds_len]; exact hn) fun id2 off2 hp2 => ?_
  refine wp_atSn H 3 rfl hp2 (jds_get? hy) rfl rfl fun S5 H => ?_
  have e1 : (jds s.jobs).set n [I 1, I 0, U y.key] = jds (s.jobs.set n { y with st := 1, core := 0 }) := jds_set s.jobs n { y with st := 1, core := 0 }
  have H : Cx B0 W S5 ((.obj q (.row [I (n : Int), U y.key]) :: (dOwn x s m ++ .obj t (.row [I 0, U 0]) :: R)).set 3 (.sl m.vj 3 ((jds s.jobs).set n [I 1, I 0, U y.key]))) ro := H
  rw [e1] at H
  have H : Cx B0 W S5 (.obj q (.row [I (n : Int), U y.key]) :: (dOwn x { s with jobs := s.jobs.set n { y with st := 1, core := 0 } } m ++ .obj t (.row [I 0, U 0]) :: R)) ro := H
  try(refine zz ?_;(repeat constructor);intro _)
  refine wp_row (j := 12) H 1 rfl rfl ?_
  refine wp_at (es := 1) (i := c) H 6 rfl (by rw [ints_len]; exact hcl) fun id4 off4 hp4 => ?_
  refine wp_atS0 H 6 rfl hp4 (ints_get? hr) rfl rfl (by omega) (by simp) fun S6 H => ?_
  have e4 : (ints s.runs).set c ([I (n : Int)].set 0 (I (-1))) = ints (s.runs.set c (-1)) := ints_set _ _ _
  rw [e4] at H
  have H : Cx B0 W S6 (.obj q (.row [I (n : Int), U y.key]) :: (dOwn x { s with jobs := s.jobs.set n { y with st := 1, core := 0 }, runs := s.runs.set c (-1) } m ++ .obj t (.row [I 0, U 0]) :: R)) ro := H
  refine wp_mk1 H rfl rfl fun w S7 H => ?_
  try(refine zz ?_;(repeat constructor);intro _)
  refine wp_row (j := 10) H 2 rfl rfl ?_
  have hfo : slOk S7 m.vf 1 (ints s.free) := ownSl_ok (H.oh _ (List.mem_of_getElem? (i := 5) rfl))
  have h64 := wf.j64
  refine wp_append (N := ints s.free) H 0 rfl (slOk_elems hfo) (fun y hy => ints_one _ y hy) (by rw [ints_len]; unfold maxBytes; simp only [List.length_singleton]; omega) (by rw [ints_len]; unfold maxLenN; simp only [List.length_singleton]; omega) fun w2 S8 H => ?_
  have H : Cx B0 W S8 (.sl w2 1 (ints ((n : Int) :: s.free)) :: .obj q (.row [I (n : Int), U y.key]) :: (dOwn x { s with jobs := s.jobs.set n { y with st := 1, core := 0 }, runs := s.runs.set c (-1) } m ++ .obj t (.row [I 0, U 0]) :: R)) ro := H
  obtain ⟨ho1, ho2⟩ := slOk_odd1 (ownSl_ok (H.oh (.sl w2 1 (ints ((n : Int) :: s.free))) (List.mem_of_getElem? (i := 0) rfl)))
  try(refine zz ?_;(repeat constructor);intro _)
  refine wp_set1 (j := 10) H 2 rfl (by simp [Ms.row, Su.cs]) ho1 ho2 fun S9 H => ?_
  have e5 : s.ends c y = { s with jobs := s.jobs.set n { y with st := 1, core := 0 }, runs := s.runs.set c (-1), free := (n : Int) :: s.free } := by
    unfold Ms.ends
    rw [hyj, Int.toNat_natCast]
  have H : Cx B0 W S9 (.obj q (.row [I (n : Int), U y.key]) :: (dOwn x (s.ends c y) { m with vf := w2 } ++ .obj t (.row [I 0, U 0]) :: R)) ro := by
    rw [e5]
    have H := H.dropAt 5
    exact Cx.inn (l := [.obj q (.row [I (n : Int), U y.key]), .obj x (.row (Ms.row { s with jobs := s.jobs.set n { y with st := 1, core := 0 }, runs := s.runs.set c (-1), free := (n : Int) :: s.free } { m with vf := w2 })), .sl m.vp 1 (ints (pas s.passed)), .sl m.vj 3 (jds (s.jobs.set n { y with st := 1, core := 0 }))]) H
  refine wp_call (wpC_mono (rbalance_ok (wf.ends hy hyj hf) (Cx.inn H)) fun _ S10 q => ?_)
  obtain ⟨s', hb, H⟩ := q
  have H := Cx.outn H
  have hsm := hb.same
  refine wp_loadoa (n := 2) H 0 rfl (Nat.le_refl _) ?_
  have H := Cx.outn (H.dropAt 0)
  have hjn : s'.jobs[n]? = some { y with st := 1, core := 0 } := by rw [hsm.1, e5]; show (s.jobs.set n _)[n]? = _; rw [List.getElem?_set]; simp [hn]
  refine wp_tellT (a := n) (b := y.key) rfl rfl H fun S' H => ⟨rfl, n, 0, s', { m with vf := w2 }, by rw [told_at hjn]; rfl, .inr ⟨n, y, hr, by omega, by simpa using hy, rfl, rfl, hb⟩, ?_, rfl, H⟩
  rw [hsm.2.2.2.2.1, e5]
  exact hbx
theorem told_agg (s : Ms) (r e : Int) : ∃ a b, told s r e = .agg [I a, U b] := by
  unfold told
  split
  · exact ⟨_, _, rfl⟩
  · exact ⟨_, _, rfl⟩
theorem wp_remU {a b : Int} (h0 : 0 ≤ a) (hb : 0 < b) (h : wp EM (k (U (a % b))) S Q) : wp EM (.op (.bin .rem (U a) (U b)) k) S Q := by
  refine wp_rem (by omega) ?_
  rw [Int.tmod_eq_emod_of_nonneg h0]; exact h
set_option maxHeartbeats 1000000 in
theorem rserve_ok {c : Nat} (wf : s.Wf) (hbx : m.bx.length = s.mail.length) (hc : (c : Int) < s.su.cores) (H : Cx B0 W S (dOwn x s m ++ R) ro) :
    wpC EM (.fn (.func 35) [] []) [.ptr x 0, I (c : Int)] S (DTup x s m B0 W R ro (ServeR s c)) := by
  refine wpC_fn (b := Tryz.a35) rfl rfl ?_
  unfold Tryz.a35 Tryz.a35x11 Tryz.a35x10 Tryz.a35x9 Tryz.a35x8 Tryz.a35x7 Tryz.a35x6 Tryz.a35x5 Tryz.a35x4 Tryz.a35x3 Tryz.a35x2 Tryz.a35x1 Tryz.a35x0
  have hrl := wf.rl
  have hgl := wf.gl
  have hcl : c < s.runs.length := by omega
  have hcg : c < s.flags.length := by omega
  have hr : s.runs[c]? = some s.runs[c] := List.getElem?_eq_getElem hcl
  generalize s.runs[c] = i at hr
  have hrb := wf.rb _ (List.mem_of_getElem? hr)
  have hg : s.flags[c]? = some s.flags[c] := List.getElem?_eq_getElem hcg
  have hgb := bls_get hcg
  generalize s.flags[c] = b at hg hgb
  refine wp_fin ?_
  refine wp_alloc H fun t S1 H => ?_
  try(refine zz ?_;(repeat constructor);intro _)
  refine wp_row (j := 13) H 1 rfl rfl ?_
  refine wp_at (es := 1) H 7 rfl (by rw [bls_len]; exact hcg) fun id off hp => ?_
  refine wp_atL0 H 7 rfl hp hgb rfl ?_
  refine wp_not ?_
  cases b with
  | false =>
    try(refine zz ?_;(repeat constructor);intro _)
    refine wp_none rfl H fun S' H => ⟨rfl, -1, 15, s, m, by rw [told_no (.inl (by omega))]; rfl, .inl ⟨hg, rfl, rfl, rfl⟩, hbx, rfl, H⟩
  | true =>
  try(refine zz ?_;(repeat constructor);intro _)
  refine wp_row (j := 13) H 1 rfl rfl ?_
  refine wp_at (es := 1) H 7 rfl (by rw [bls_len]; exact hcg) fun id off hp => ?_
  refine wp_atS0 H 7 rfl hp hgb rfl rfl (by omega) (by simp) fun S2 H => ?_
  have e1 : (bls s.flags).set c ([B true].set 0 (B false)) = bls (s.flags.set c false) := bls_set ..
  rw [e1] at H
  have H : Cx B0 W S2 (.obj t (.row [I 0, U 0]) :: (dOwn x (s.drops c) m ++ R)) ro := H
  try(refine zz ?_;(repeat constructor);intro _)
  refine wp_row (j := 12) H 1 rfl rfl ?_
  refine wp_at (es := 1) H 6 rfl (by rw [ints_len]; exact hcl) fun id2 off2 hp2 => ?_
  refine wp_atL0 H 6 rfl hp2 (ints_get? hr) rfl ?_
  have pk : ∀ {S3 : AH} {s1 : Ms}, s1.Wf → m.bx.length = s1.mail.length → s1.su = s.su → s1.runs[c]? = some (-1) → Cx B0 W S3 (.obj t (.row [I 0, U 0]) :: (dOwn x s1 m ++ R)) ro → ∀ {Q2 : Post}, (∀ S' r e s' m', ThenPick s1 c r e s' → m'.bx.length = s'.mail.length → m'.vt = m.vt → Cx B0 W S' (dOwn x s' m' ++ R) ro → Q2 .ret [told s' r e, I e] S') →
      wp EM (Tryz.a35x8 [.ptr x 0, I (c : Int)] (.ptr t 0)) S3 (fun tg vs S' => (tg = .normal ∨ tg = .ret) ∧ wp EM (.op (.load 2 true (nth vs 0)) fun v2 => .ret .ret [v2, (nth vs 1)]) S' Q2) := by
    clear H
    intro S3 s1 wf1 hb1 hsu hr1 H Q2 hq
    unfold Tryz.a35x8 Tryz.a35x7
    refine wp_call (wpC_mono (rleast_ok wf1 (Cx.inn H)) fun l S4 q => ?_)
    obtain ⟨a, rfl, hL, H⟩ := q
    have H := Cx.outn H
    rcases hL.done wf1 with ⟨rfl, h0⟩ | ⟨z, rfl, hz0, hz⟩
    · refine wp_lss_t (by omega) ?_
      try(refine zz ?_;(repeat constructor);intro _)
      refine wp_none rfl H fun S' H => ?_
      have := hq S' (-1) 0 s1 m ⟨-1, 15, .inr (.inl ⟨hr1, h0, rfl, rfl, rfl⟩), by simp⟩ hb1 rfl H
      rwa [told_no (.inr rfl)] at this
    · refine wp_lss_f (by omega) ?_
      try(refine zz ?_;(repeat constructor);intro _)
      refine wp_call (wpC_mono (rpick_ok (c := c) wf1 hb1 (by rw [hsu]; exact hc) (Cx.inn H)) fun u S5 q => ?_)
      obtain ⟨r, e, s', m', rfl, hp, hb', hv', H⟩ := q
      try(refine zz ?_;(repeat constructor);intro _)
      obtain ⟨a, b, hab⟩ := told_agg s' r e
      refine wp_tellT hab rfl (Cx.outn H) fun S' H => hq S' r e s' m' ⟨r, e, hp, ?_⟩ hb' hv' H
      rcases hp with ⟨i, h1, h2, _⟩ | ⟨_, h2, _⟩ | ⟨z2, _, _, _, h4, _⟩
      · rw [hr1] at h1; cases h1; exact absurd rfl h2
      · exact absurd hz.1 (by rw [h2]; simp)
      · rw [if_neg (by omega)]; exact ⟨rfl, rfl⟩
  refine wp_geq (fun h0 => ?_) (fun h0 => ?_)
  · obtain ⟨n, rfl, y, hy, hyj⟩ := wf.run hr (by omega)
    have hn := (List.getElem?_eq_some_iff.1 hy).1
    have hkb := wf.kb y (List.mem_of_getElem? hy)
    refine wp_bind ?_
    try(refine zz ?_;(repeat constructor);intro _)
    refine wp_row (j := 9) H 1 rfl rfl ?_
    refine wp_at (es := 3) (i := n) H 3 rfl (by show n < (jds s.jobs).length; rw [jds_len]; exact hn) fun id3 off3 hp3 => ?_
    try(refine zz ?_;(repeat constructor);intro _)
    refine wp_atL H 3 rfl hp3 (jds_get? hy) (j := 2) rfl ?_
    refine wp_remU hkb.1 (by omega) ?_
    refine wp_eql (fun hw => ?_) (fun hw => ?_)
    · try(refine zz ?_;(repeat constructor);intro _)
      refine wp_op (v := .agg [I 0, U 0]) rfl ?_
      refine wp_store H 0 rfl rfl rfl (Nat.le_refl _) fun S4 H => ?_
      refine wp_ret ?_
      show (_ ∨ _) ∧ _
      refine ⟨.inr rfl, ?_⟩
      refine wp_loadoa (n := 2) H 0 rfl (Nat.le_refl _) ?_
      refine wp_ret ⟨rfl, -1, 12, s.drops c, m, by rw [told_no (.inl (by omega))]; rfl, .inr (.inr ⟨n, y, hg, hr, by omega, by simpa using hy, .inl ⟨hw, rfl, rfl, rfl⟩⟩), hbx, rfl, H.dropAt 0⟩
    · try(refine zz ?_;(repeat constructor);intro _)
      refine wp_row (j := 9) H 1 rfl rfl ?_
      try(refine zz ?_;(repeat constructor);intro _)
      refine wp_row (j := 9) H 1 rfl rfl ?_
      refine wp_at (es := 3) (i := n) H 3 rfl (by show n < (jds s.jobs).length; rw [jds_len]; exact hn) fun id4 off4 hp4 => ?_
      try(refine zz ?_;(repeat constructor);intro _)
      refine wp_atL H 3 rfl hp4 (jds_get? hy) (j := 2) rfl ?_
      refine wp_add (c := y.key + 1) (by rw [wrapF_eq]; show (y.key + 1) % 18446744073709551616 = _; omega) ?_
      refine wp_op (v := .agg [I 3, I 0, U (y.key + 1)]) rfl ?_
      refine wp_at (es := 3) (i := n) H 3 rfl (by show n < (jds s.jobs).length; rw [jds_len]; exact hn) fun id5 off5 hp5 => ?_
      refine wp_atSn H 3 rfl hp5 (jds_get? hy) rfl rfl fun S5 H => ?_
      have e2 : (jds s.jobs).set n [I 3, I 0, U (y.key + 1)] = jds (s.jobs.set n ⟨n, 3, 0, y.key + 1⟩) := jds_set s.jobs n ⟨n, 3, 0, y.key + 1⟩
      have H : Cx B0 W S5 ((.obj t (.row [I 0, U 0]) :: (dOwn x (s.drops c) m ++ R)).set 3 (.sl m.vj 3 ((jds s.jobs).set n [I 3, I 0, U (y.key + 1)]))) ro := H
      rw [e2] at H
      have H : Cx B0 W S5 (.obj t (.row [I 0, U 0]) :: (dOwn x { s with flags := s.flags.set c false, jobs := s.jobs.set n ⟨n, 3, 0, y.key + 1⟩ } m ++ R)) ro := H
      try(refine zz ?_;(repeat constructor);intro _)
      refine wp_row (j := 12) H 1 rfl rfl ?_
      refine wp_at (es := 1) (i := c) H 6 rfl (by rw [ints_len]; exact hcl) fun id6 off6 hp6 => ?_
      refine wp_atS0 H 6 rfl hp6 (ints_get? hr) rfl rfl (by omega) (by simp) fun S6 H => ?_
      have e4 : (ints s.runs).set c ([I (n : Int)].set 0 (I (-1))) = ints (s.runs.set c (-1)) := ints_set _ _ _
      rw [e4] at H
      have eg : s.gives c y = { s with flags := s.flags.set c false, jobs := s.jobs.set n ⟨n, 3, 0, y.key + 1⟩, runs := s.runs.set c (-1) } := by
        unfold Ms.gives
        rw [hyj, Int.toNat_natCast]
      have H : Cx B0 W S6 (.obj t (.row [I 0, U 0]) :: (dOwn x (s.gives c y) m ++ R)) ro := by rw [eg]; exact H
      refine wp_ret ?_
      refine pk (wf.gives hy hyj hw) (by rw [eg]; exact hbx) (by rw [eg]) (by rw [eg]; show (s.runs.set c (-1))[c]? = _; rw [List.getElem?_set]; simp [hcl]) H fun S' r e s' m' hp hb' hv' H => ?_
      exact ⟨rfl, r, e, s', m', rfl, .inr (.inr ⟨n, y, hg, hr, by omega, by simpa using hy, .inr ⟨hw, hp⟩⟩), hb', hv', H⟩
  · have hi : i = -1 := by omega
    subst hi
    refine wp_bind (wp_ite_f (wp_ret ?_))
    refine pk wf.setFlag hbx rfl hr H fun S' r e s' m' hp hb' hv' H => ?_
    exact ⟨rfl, r, e, s', m', rfl, .inr (.inl ⟨hg, hr, hp⟩), hb', hv', H⟩
end
end Go.Abs
namespace Go.Abs
open Go.Proofs
set_option maxRecDepth 100000
set_option linter.unusedVariables false
open Tsk (Tk tks tchk tks_get)
section
variable {B0 S : AH} {W : List Nat} {own R : List Own} {ro : List Fct} {Q : Post} {k : AV → AC} {v : AV} {x : Nat} {s : Ms} {m : Mv}
theorem rhome_ok {S : AH} {t : Nat} {cores : Int} (h1 : 1 ≤ cores) (h2 : cores ≤ 64) : wpC EM (.fn (.func 59) [] []) [I (t : Int), I cores] S fun r S' => r = I ((t : Int) % cores) ∧ Grows S S' := by
  refine wpC_fn (b := Tryz.a59) rfl rfl ?_
  unfold Tryz.a59 Tryz.a59x0
  refine wp_lss_f (by omega) ?_
  try(refine zz ?_;(repeat constructor);intro _)
  refine wp_lss_f (by omega) ?_
  try(refine zz ?_;(repeat constructor);intro _)
  refine wp_gtr_f (by omega) ?_
  try(refine zz ?_;(repeat constructor);intro _)
  refine wp_rem (by omega) ?_
  refine wp_ret ⟨rfl, ?_, Grows.refl _⟩
  rw [Int.tmod_eq_emod_of_nonneg (by omega)]; rfl
set_option maxHeartbeats 2000000 in
theorem rrelease_ok {now : Int} {t : Nat} (wf : s.Wf) (hbx : m.bx.length = s.mail.length) (hv : Fct.sl m.vt 4 (tks s.T) ∈ ro) (ht : t < s.T.length) (hnow : 0 ≤ now ∧ now ≤ 1099511627776) (hseq : s.seq < 1152921504606846976) (H : Cx B0 W S (dOwn x s m ++ R) ro) :
    wpC EM (.fn (.func 32) [] []) [.ptr x 0, I (t : Int), I now] S (DTup x s m B0 W R ro (RelR s t now)) := by
  refine wpC_fn (b := Tryz.a32) rfl rfl ?_
  unfold Tryz.a32 Tryz.a32x23 Tryz.a32x22 Tryz.a32x21 Tryz.a32x20 Tryz.a32x19 Tryz.a32x18 Tryz.a32x17 Tryz.a32x16 Tryz.a32x15 Tryz.a32x14 Tryz.a32x13 Tryz.a32x12 Tryz.a32x11 Tryz.a32x10 Tryz.a32x9 Tryz.a32x8 Tryz.a32x7 Tryz.a32x6 Tryz.a32x5 Tryz.a32x4 Tryz.a32x3 Tryz.a32x2 Tryz.a32x1 Tryz.a32x0
  have hpl := wf.pl
  have htp : t < s.passed.length := by omega
  have hl : s.passed[t]? = some s.passed[t] := List.getElem?_eq_getElem htp
  generalize s.passed[t] = last at hl
  have hlb := wf.pb _ (List.mem_of_getElem? hl)
  have hlp : (ints (pas s.passed))[t]? = some [I (last + 1)] := ints_get? (pas_get? hl)
  have htpp : t < (ints (pas s.passed)).length := by rw [ints_len, pas_len]; exact htp
  have hT : s.T[t]? = some s.T[t] := List.getElem?_eq_getElem ht
  have hTc : (tks s.T)[t]? = some (s.T[t]).cs := tks_get ht
  generalize s.T[t] = a at hT hTc
  have hab := tone_bd ((tchk_all wf.chk).2 a (List.mem_of_getElem? hT))
  refine wp_fin ?_
  refine wp_alloc H fun tt S1 H => ?_
  have rest : ∀ {S2 : AH} {ro2 : List Fct} {vv : AV}, ¬ (last ≠ -1 ∧ (now < last ∨ now - last < a.every)) → (∀ φ ∈ ro, φ ∈ ro2) → Cx B0 W S2 (.obj tt (.row [I 0, U 0]) :: (dOwn x s m ++ R)) ro2 → wp EM (.op (.nilchk (.ptr x 0)) fun v41 => .op (.faddr 7 v41) fun v42 => .op (.load 1 false v42) fun v43 => Tryz.a32x16 ([] ++ ([.ptr x 0, I (t : Int), I now] ++ [])) (.ptr tt 0) v43) S2 (fun tg vs S' => (tg = .normal ∨ tg = .ret) ∧ wp EM (.op (.load 2 true (nth vs 0)) fun v2 => .ret .ret [v2, (nth vs 1)]) S' fun tg vs S' => tg = .ret ∧ DTup x s m B0 W R ro (RelR s t now) (oneOf vs) S') := by
    clear H
    intro S2 ro2 vv hns hro H
    unfold Tryz.a32x16 Tryz.a32x15 Tryz.a32x14 Tryz.a32x13 Tryz.a32x12 Tryz.a32x11 Tryz.a32x10 Tryz.a32x9 Tryz.a32x8 Tryz.a32x7 Tryz.a32x6 Tryz.a32x5 Tryz.a32x4 Tryz.a32x3 Tryz.a32x2 Tryz.a32x1 Tryz.a32x0
    try(refine zz ?_;(repeat constructor);intro _)
    refine wp_row (j := 7) H 1 rfl rfl ?_
    refine wp_add64 (by omega) (by omega) ?_
    refine wp_at (es := 1) H 2 rfl htpp fun id off hp => ?_
    refine wp_atS0 H 2 rfl hp hlp rfl rfl (by omega) (by simp) fun S3 H => ?_
    have e1 : (ints (pas s.passed)).set t ([I (last + 1)].set 0 (I (now + 1))) = ints (pas (s.passed.set t now)) := by rw [← pas_set, ← ints_set]; rfl
    have H : Cx B0 W S3 ((.obj tt (.row [I 0, U 0]) :: (dOwn x s m ++ R)).set 2 (.sl m.vp 1 ((ints (pas s.passed)).set t ([I (last + 1)].set 0 (I (now + 1)))))) ro2 := H
    rw [e1] at H
    have H : Cx B0 W S3 (.obj tt (.row [I 0, U 0]) :: (dOwn x { s with passed := s.passed.set t now } m ++ R)) ro2 := H
    try(refine zz ?_;(repeat constructor);intro _)
    refine wp_row (j := 10) H 1 rfl rfl ?_
    refine wp_leno H 4 rfl ?_
    rw [ints_len]
    refine wp_eql (fun h0 => ?_) (fun h0 => ?_)
    · have : s.free = [] := List.eq_nil_of_length_eq_zero (by have : (s.free.length : Int) = 0 := h0; omega)
      try(refine zz ?_;(repeat constructor);intro _)
      refine wp_none rfl (H.dropRo hro) fun S' H => ⟨rfl, -1, 7, _, m, by rw [told_no (.inl (by omega))]; rfl, ⟨last, a, hl, hT, .inr ⟨hns, .inl ⟨this, rfl, rfl, rfl⟩⟩⟩, hbx, rfl, H⟩
    obtain ⟨i, f, hf⟩ : ∃ i f, s.free = i :: f := by
      cases h : s.free with
      | nil => exact absurd (by show (s.free.length : Int) = 0; rw [h]; rfl) h0
      | cons i f => exact ⟨i, f, rfl⟩
    try(refine zz ?_;(repeat constructor);intro _)
    refine wp_row (j := 8) H 1 rfl rfl ?_
    refine wp_add64 (by have := wf.sq; show _ ≤ s.seq + 1; omega) (by show s.seq + 1 ≤ _; omega) ?_
    try(refine zz ?_;(repeat constructor);intro _)
    refine wp_set1 (j := 8) H 1 rfl (by simp [Ms.row, Su.cs]) rfl rfl fun S4 H => ?_
    have H : Cx B0 W S4 (.obj tt (.row [I 0, U 0]) :: (dOwn x { s with passed := s.passed.set t now, seq := s.seq + 1 } m ++ R)) ro2 := H
    try(refine zz ?_;(repeat constructor);intro _)
    refine wp_row (j := 8) H 1 rfl rfl ?_
    refine wp_gtr (fun hk => ?_) (fun hk => ?_)
    · try(refine zz ?_;(repeat constructor);intro _)
      refine wp_none rfl (H.dropRo hro) fun S' H => ⟨rfl, -1, 12, _, m, by rw [told_no (.inl (by omega))]; rfl, ⟨last, a, hl, hT, .inr ⟨hns, .inr ⟨i, f, hf, .inl ⟨hk, rfl, rfl, rfl⟩⟩⟩⟩, hbx, rfl, H⟩
    have hk : s.seq + 1 ≤ 1099511627775 := hk
    try(refine zz ?_;(repeat constructor);intro _)
    refine wp_row (j := 0) H 1 rfl rfl ?_
    have hc := wf.c64
    refine wp_callV H (rhome_ok (cores := s.su.cores) (by omega) (by omega)) fun S7 H => ?_
    obtain ⟨h, hh⟩ : ∃ h : Nat, (h : Int) = (t : Int) % s.su.cores := ⟨((t : Int) % s.su.cores).toNat, by have := Int.emod_nonneg (t : Int) (show s.su.cores ≠ 0 by omega); omega⟩
    have hhl : h < s.mail.length := by
      have := Int.emod_lt_of_pos (t : Int) (show 0 < s.su.cores by omega)
      have := wf.ml
      omega
    rw [← hh]
    have b1 : m.bx[h]? = some (m.bx[h]'(by omega)) := List.getElem?_eq_getElem _
    generalize m.bx[h]'(by omega) = bo at b1
    have b2 : s.mail[h]? = some s.mail[h] := List.getElem?_eq_getElem hhl
    generalize s.mail[h] = bl at b2
    have hml := wf.mb _ (List.mem_of_getElem? b2)
    have hroom : s.su.room ≤ 16 := by have := wf.fine; unfold Su.fine at this; omega
    have H : Cx B0 W S7 (.obj tt (.row [I 0, U 0]) :: (dOwnG x { s with passed := s.passed.set t now, seq := s.seq + 1 } m m.bx ++ R)) ro2 := H
    try(refine zz ?_;(repeat constructor);intro _)
    refine wp_row (j := 11) H 1 rfl rfl ?_
    refine wp_at (es := 1) H 5 rfl (by rw [ptrs_len]; omega) fun id off hp => ?_
    refine wp_atL0 H 5 rfl hp (ptrs_get? b1) rfl ?_
    refine wp_leno H (h + 8) (dbox_get (x := x) (s := { s with passed := s.passed.set t now, seq := s.seq + 1 }) (m := m) (R := R) b1 b2) ?_
    rw [ints_len]
    try(refine zz ?_;(repeat constructor);intro _)
    refine wp_row (j := 4) H 1 rfl rfl ?_
    refine wp_geq (fun hfull => ?_) (fun hfull => ?_)
    · try(refine zz ?_;(repeat constructor);intro _)
      refine wp_none rfl (H.dropRo hro) fun S' H => ⟨rfl, -1, 7, _, m, by rw [told_no (.inl (by omega))]; rfl, ⟨last, a, hl, hT, .inr ⟨hns, .inr ⟨i, f, hf, .inr ⟨hk, h, bl, hh, b2, .inl ⟨?_, rfl, rfl, rfl⟩⟩⟩⟩⟩, hbx, rfl, H⟩
      have : s.su.room ≤ bl.length := hfull
      omega
    have hfull : (bl.length : Int) ≠ s.su.room := by
      have : (bl.length : Int) < s.su.room := hfull
      omega
    have hib := wf.fb i (by rw [hf]; exact List.mem_cons_self ..)
    obtain ⟨n, rfl⟩ : ∃ n : Nat, i = (n : Int) := ⟨i.toNat, by omega⟩
    have hn : n < s.jobs.length := by omega
    obtain ⟨y, hy, hyj⟩ := wf.job hn
    try(refine zz ?_;(repeat constructor);intro _)
    refine wp_row (j := 10) H 1 rfl rfl ?_
    have hm3 : (Own.obj tt (.row [I 0, U 0]) :: (dOwnG x { s with passed := s.passed.set t now, seq := s.seq + 1 } m m.bx ++ R))[4]? = some (.sl m.vf 1 (ints ((n : Int) :: f))) := by rw [← hf]; rfl
    refine wp_at (es := 1) (i := 0) H 4 hm3 (by simp [ints]) fun id3 off3 hp3 => ?_
    refine wp_atL0 H 4 hm3 hp3 (x := [I (n : Int)]) rfl rfl ?_
    try(refine zz ?_;(repeat constructor);intro _)
    refine wp_row (j := 10) H 1 rfl rfl ?_
    refine wp_from (i := 1) H 4 hm3 (by simp [ints]) fun u H => ?_
    have H : Cx B0 W S7 ((.obj tt (.row [I 0, U 0]) :: (dOwnG x { s with passed := s.passed.set t now, seq := s.seq + 1 } m m.bx ++ R)).set 4 (.sl u 1 (ints f))) ro2 := H
    obtain ⟨ho1, ho2⟩ := slOk_odd1 (ownSl_ok (H.oh (.sl u 1 (ints f)) (List.mem_of_getElem? (i := 4) rfl)))
    try(refine zz ?_;(repeat constructor);intro _)
    refine wp_set1 (j := 10) H 1 rfl (by simp [Ms.row, Su.cs]) ho1 ho2 fun S9 H => ?_
    have H : Cx B0 W S9 (.obj tt (.row [I 0, U 0]) :: (dOwnG x { s with passed := s.passed.set t now, seq := s.seq + 1, free := f } { m with vf := u } m.bx ++ R)) ro2 := H
    try(refine zz ?_;(repeat constructor);intro _)
    refine wp_row (j := 6) H 1 rfl rfl ?_
    refine wp_saddr (i := t) H (hro _ hv) hTc fun p o H => ?_
    try(refine zz ?_;(repeat constructor);intro _)
    refine wp_load1 (j := 1) H (cs := a.cs) (by repeat (first | exact List.Mem.head _ | apply List.Mem.tail)) rfl ?_
    have H := H.tl
    try(refine zz ?_;(repeat constructor);intro _)
    refine wp_row (j := 8) H 1 rfl rfl ?_
    refine wp_op (v := .agg [I a.prio, I (s.seq + 1), I 0]) rfl ?_
    refine wp_callV H refPutKey_ok fun S6 H => ?_
    unfold putk
    rw [if_pos (by have := wf.sq; unfold kok; omega)]
    try(refine zz ?_;(repeat constructor);intro _)
    refine wp_row (j := 9) H 1 rfl rfl ?_
    refine wp_op (v := .agg (Lv.ds ⟨n, 2, 0, kword a.prio (s.seq + 1) 0⟩)) rfl ?_
    refine wp_at (es := 3) (i := n) H 3 rfl (by rw [jds_len]; exact hn) fun id4 off4 hp4 => ?_
    refine wp_atSn H 3 rfl hp4 (jds_get? hy) rfl rfl fun S10 H => ?_
    have e2 : (jds s.jobs).set n (Lv.ds ⟨n, 2, 0, kword a.prio (s.seq + 1) 0⟩) = jds (s.jobs.set n ⟨n, 2, 0, kword a.prio (s.seq + 1) 0⟩) := jds_set s.jobs n ⟨n, 2, 0, kword a.prio (s.seq + 1) 0⟩
    have H : Cx B0 W S10 ((.obj tt (.row [I 0, U 0]) :: (dOwnG x { s with passed := s.passed.set t now, seq := s.seq + 1, free := f } { m with vf := u } m.bx ++ R)).set 3 (.sl m.vj 3 ((jds s.jobs).set n (Lv.ds ⟨n, 2, 0, kword a.prio (s.seq + 1) 0⟩)))) ro2 := H
    rw [e2] at H
    have H : Cx B0 W S10 (.obj tt (.row [I 0, U 0]) :: (dOwnG x { s with passed := s.passed.set t now, seq := s.seq + 1, free := f, jobs := s.jobs.set n ⟨n, 2, 0, kword a.prio (s.seq + 1) 0⟩ } { m with vf := u } m.bx ++ R)) ro2 := H
    try(refine zz ?_;(repeat constructor);intro _)
    refine wp_row (j := 11) H 1 rfl rfl ?_
    try(refine zz ?_;(repeat constructor);intro _)
    refine wp_row (j := 11) H 1 rfl rfl ?_
    refine wp_at (es := 1) (i := h) H 5 rfl (by rw [ptrs_len]; show h < m.bx.length; omega) fun id5 off5 hp5 => ?_
    refine wp_atL0 H 5 rfl hp5 (ptrs_get? b1) rfl ?_
    refine wp_push (x := I (n : Int)) H (h + 8) (dbox_get (x := x) (s := { s with passed := s.passed.set t now, seq := s.seq + 1, free := f, jobs := s.jobs.set n ⟨n, 2, 0, kword a.prio (s.seq + 1) 0⟩ }) (m := { m with vf := u }) (R := R) b1 b2) rfl rfl rfl (by rw [ints_len]; unfold maxBytes; omega) (by rw [ints_len]; unfold maxLenN; omega) fun v1 S11 H => ?_
    have e3 : ints bl ++ [(I (n : Int)).cells] = ints (bl ++ [(n : Int)]) := by unfold ints; rw [List.map_append]; rfl
    rw [e3] at H
    have H : Cx B0 W S11 (.obj tt (.row [I 0, U 0]) :: (dOwnG x { s with passed := s.passed.set t now, seq := s.seq + 1, free := f, jobs := s.jobs.set n ⟨n, 2, 0, kword a.prio (s.seq + 1) 0⟩ } { m with vf := u } m.bx ++ R).set (h + 7) (boxO v1 (bl ++ [(n : Int)]))) ro2 := H
    rw [dbox_set (s := { s with passed := s.passed.set t now, seq := s.seq + 1, free := f, jobs := s.jobs.set n ⟨n, 2, 0, kword a.prio (s.seq + 1) 0⟩ }) b1 b2] at H
    have hbz : (m.bx.set h v1)[h]? = some v1 := by rw [List.getElem?_set]; simp; omega
    have hmz : (s.mail.set h (bl ++ [(n : Int)]))[h]? = some (bl ++ [(n : Int)]) := by rw [List.getElem?_set]; simp [hhl]
    obtain ⟨ho1, ho2⟩ := slOk_odd1 (ownSl_ok (H.oh _ (List.mem_of_getElem? (i := h + 8) (dbox_get (x := x) (s := { s with passed := s.passed.set t now, seq := s.seq + 1, free := f, jobs := s.jobs.set n ⟨n, 2, 0, kword a.prio (s.seq + 1) 0⟩, mail := s.mail.set h (bl ++ [(n : Int)]) }) (m := { m with vf := u }) (R := R) hbz hmz))))
    have hvm : slOk S11 m.vm 1 (ptrs m.bx) := ownSl_ok (H.oh _ (List.mem_of_getElem? (i := 5) rfl))
    refine wp_cko (o := 11) H 1 rfl rfl (beq_sl hvm) ?_
    refine wp_at (es := 1) (i := h) H 5 rfl (by rw [ptrs_len]; show h < m.bx.length; omega) fun id6 off6 hp6 => ?_
    refine wp_atS0 H 5 rfl hp6 (ptrs_get? b1) ho1 ho2 (by omega) (by simp) fun S12 H => ?_
    have e4 : (ptrs m.bx).set h ([bo].set 0 v1) = ptrs (m.bx.set h v1) := ptrs_set _ _ _
    have H : Cx B0 W S12 ((.obj tt (.row [I 0, U 0]) :: (dOwnG x { s with passed := s.passed.set t now, seq := s.seq + 1, free := f, jobs := s.jobs.set n ⟨n, 2, 0, kword a.prio (s.seq + 1) 0⟩, mail := s.mail.set h (bl ++ [(n : Int)]) } { m with vf := u } (m.bx.set h v1) ++ R)).set 5 (.sl m.vm 1 ((ptrs m.bx).set h ([bo].set 0 v1)))) ro2 := H
    rw [e4] at H
    have e5 : Ms.rel { s with passed := s.passed.set t now, seq := s.seq + 1 } (n : Int) f h bl (kword a.prio (s.seq + 1) 0) = { s with passed := s.passed.set t now, seq := s.seq + 1, free := f, jobs := s.jobs.set n ⟨n, 2, 0, kword a.prio (s.seq + 1) 0⟩, mail := s.mail.set h (bl ++ [(n : Int)]) } := rfl
    have H : Cx B0 W S12 (.obj tt (.row [I 0, U 0]) :: (dOwn x (Ms.rel { s with passed := s.passed.set t now, seq := s.seq + 1 } (n : Int) f h bl (kword a.prio (s.seq + 1) 0)) { m with vf := u, bx := m.bx.set h v1 } ++ R)) ro2 := by rw [e5]; exact H
    have hjn : (Ms.rel { s with passed := s.passed.set t now, seq := s.seq + 1 } (n : Int) f h bl (kword a.prio (s.seq + 1) 0)).jobs[n]? = some ⟨n, 2, 0, kword a.prio (s.seq + 1) 0⟩ := by rw [e5]; show (s.jobs.set n _)[n]? = _; rw [List.getElem?_set]; simp [hn]
    refine wp_call (wpC_mono (rtold_ok hjn (Cx.inn H)) fun _ S13 q => ?_)
    obtain ⟨rfl, H⟩ := q
    have H := Cx.outn (H.dropRo hro)
    refine wp_tellT rfl rfl H fun S' H => ⟨rfl, n, 0, _, { m with vf := u, bx := m.bx.set h v1 }, by rw [told_at hjn]; rfl, ⟨last, a, hl, hT, .inr ⟨hns, .inr ⟨n, f, hf, .inr ⟨hk, h, bl, hh, b2, .inr ⟨hfull, rfl, rfl, rfl⟩⟩⟩⟩⟩, ?_, rfl, H⟩
    show (m.bx.set h v1).length = (s.mail.set h _).length
    rw [List.length_set, List.length_set]; exact hbx
  unfold Tryz.a32x16 Tryz.a32x15 Tryz.a32x14 Tryz.a32x13 Tryz.a32x12 Tryz.a32x11 Tryz.a32x10 Tryz.a32x9 Tryz.a32x8 Tryz.a32x7 Tryz.a32x6 Tryz.a32x5 Tryz.a32x4 Tryz.a32x3 Tryz.a32x2 Tryz.a32x1 Tryz.a32x0 at rest
  have soon : ∀ {S2 : AH} {ro2 : List Fct}, (∀ φ ∈ ro, φ ∈ ro2) → last ≠ -1 → (now < last ∨ now - last < a.every) → Cx B0 W S2 (.obj tt (.row [I 0, U 0]) :: (dOwn x s m ++ R)) ro2 → wp EM (.op (.build [(I 0), (U 0)] []) fun u => .op (.store 2 (.ptr tt 0) u) fun _ => .ret .ret [.ptr tt 0, I 13]) S2 (fun tg vs S' => (tg = .normal ∨ tg = .ret) ∧ wp EM (.op (.load 2 true (nth vs 0)) fun v2 => .ret .ret [v2, (nth vs 1)]) S' fun tg vs S' => tg = .ret ∧ DTup x s m B0 W R ro (RelR s t now) (oneOf vs) S') := fun hro h1 h2 H => wp_none rfl (H.dropRo hro) fun S' H => ⟨rfl, -1, 13, s, m, by rw [told_no (.inl (by omega))]; rfl, ⟨last, a, hl, hT, .inl ⟨h1, h2, rfl, rfl, rfl⟩⟩, hbx, rfl, H⟩
  try(refine zz ?_;(repeat constructor);intro _)
  refine wp_row (j := 7) H 1 rfl rfl ?_
  refine wp_at (es := 1) H 2 rfl htpp fun id off hp => ?_
  refine wp_atL0 H 2 rfl hp hlp rfl ?_
  refine wp_gtr (fun hgt => ?_) (fun hle => ?_)
  · try(refine zz ?_;(repeat constructor);intro _)
    refine wp_row (j := 7) H 1 rfl rfl ?_
    try(refine zz ?_;(repeat constructor);intro _)
    refine wp_at (es := 1) H 2 rfl htpp fun id off hp => ?_
    try(refine zz ?_;(repeat constructor);intro _)
    refine wp_atL0 H 2 rfl hp hlp rfl ?_
    try(refine zz ?_;(repeat constructor);intro _)
    refine wp_sub64 (by omega) (by omega) ?_
    try(refine zz ?_;(repeat constructor);intro _)
    refine wp_lss (fun hlt => ?_) (fun hge => ?_)
    · try(refine zz ?_;(repeat constructor);intro _)
      exact soon (fun φ h => h) (by omega) (.inl (by omega)) H
    · try(refine zz ?_;(repeat constructor);intro _)
      refine wp_row (j := 7) H 1 rfl rfl ?_
      try(refine zz ?_;(repeat constructor);intro _)
      refine wp_at (es := 1) H 2 rfl htpp fun id off hp => ?_
      try(refine zz ?_;(repeat constructor);intro _)
      refine wp_atL0 H 2 rfl hp hlp rfl ?_
      try(refine zz ?_;(repeat constructor);intro _)
      refine wp_sub64 (by omega) (by omega) ?_
      try(refine zz ?_;(repeat constructor);intro _)
      refine wp_sub64 (by omega) (by omega) ?_
      try(refine zz ?_;(repeat constructor);intro _)
      refine wp_row (j := 6) H 1 rfl rfl ?_
      try(refine zz ?_;(repeat constructor);intro _)
      refine wp_saddr (i := t) H hv hTc fun p o H => ?_
      try(refine zz ?_;(repeat constructor);intro _)
      refine wp_load1 (j := 2) H (cs := a.cs) (by repeat (first | exact List.Mem.head _ | apply List.Mem.tail)) rfl ?_
      have H := H.tl
      try(refine zz ?_;(repeat constructor);intro _)
      refine wp_lss (fun hlt => ?_) (fun hge2 => ?_)
      · try(refine zz ?_;(repeat constructor);intro _)
        exact soon (fun φ h => h) (by omega) (.inr (by omega)) H
      · try(refine zz ?_;(repeat constructor);intro _)
        exact rest (vv := .no) (fun h => by omega) (fun φ h => h) H
  · try(refine zz ?_;(repeat constructor);intro _)
    exact rest (vv := .no) (fun h => by omega) (fun φ h => h) H
end
end Go.Abs
namespace Go.Abs
open Go.Proofs
set_option maxRecDepth 100000
set_option linter.unusedVariables false
open Tsk (Tk tks tchk tks_get tks_len)
section
variable {B0 S : AH} {W : List Nat} {own R : List Own} {ro : List Fct} {Q : Post} {k : AV → AC} {v : AV} {x : Nat} {s : Ms} {m : Mv}
theorem wp_hand {t : Nat} {ro2 : List Fct} {P P' : Int → Int → Ms → Prop} {f : AV} {args : List AV} (H : Cx B0 W S (.obj t (.row [I 0, U 0]) :: (dOwn x s m ++ R)) ro2) (hro : ∀ φ ∈ ro, φ ∈ ro2)
    (hc : wpC EM f args S (DTup x s m B0 W (.obj t (.row [I 0, U 0]) :: R) ro2 P)) (hp : ∀ r e s', P r e s' → P' r e s') {K : AV → AC} {Q2 : Post}
    (hk : ∀ S1 (a b : AV) (r e : Int) (s' : Ms) (m' : Mv), a = told s' r e → b = I e → P' r e s' → m'.bx.length = s'.mail.length → m'.vt = m.vt → Cx B0 W S1 (.obj t (.row [I 0, U 0]) :: (dOwn x s' m' ++ R)) ro → wp EM (K (.tup [a, b])) S1 Q2) : wp EM (.call f args K) S Q2 := by
  refine wp_call (wpC_mono hc fun u S1 q => ?_)
  obtain ⟨r, e, s', m', rfl, h2, h3, h4, h5⟩ := q
  exact hk S1 _ _ r e s' m' rfl rfl (hp r e s' h2) h3 h4 ((Cx.outn h5).dropRo hro)
set_option maxHeartbeats 1000000 in
theorem rdo_ok {kind at' now : Int} (h : Fit s m ro) (H : Cx B0 W S (dOwn x s m ++ R) ro) :
    wpC EM (.fn (.func 13) [] []) [.ptr x 0, Deal kind at' now] S (DTup x s m B0 W R ro (DoR s kind at' now)) := by
  have wf := h.wf
  refine wpC_fn (b := Tryz.a13) rfl rfl ?_
  unfold Tryz.a13 Tryz.a13x17 Tryz.a13x16 Tryz.a13x15 Tryz.a13x14 Tryz.a13x13 Tryz.a13x12 Tryz.a13x11 Tryz.a13x10 Tryz.a13x9 Tryz.a13x8 Tryz.a13x7 Tryz.a13x6 Tryz.a13x5 Tryz.a13x4 Tryz.a13x3 Tryz.a13x2 Tryz.a13x1 Tryz.a13x0
  refine wp_fin ?_
  refine wp_box H rfl fun b S1 H => ?_
  have H : Cx B0 W S1 (dOwn x s m ++ R) (.pt b 0 [I kind, I at', I now] :: ro) := H
  refine wp_alloc H fun t S2 H => ?_
  have hro : ∀ φ ∈ ro, φ ∈ Fct.pt b 0 [I kind, I at', I now] :: ro := fun φ h => List.mem_cons_of_mem _ h
  have bad : ∀ {S : AH} (e : Int), ((e = 2 ∧ ¬ (1 ≤ kind ∧ kind ≤ 5)) ∨ (e = 3 ∧ (1 ≤ kind ∧ kind ≤ 5) ∧ ¬ mayAt s kind at' now)) → Cx B0 W S (.obj t (.row [I 0, U 0]) :: (dOwn x s m ++ R)) (.pt b 0 [I kind, I at', I now] :: ro) →
      wp EM (.op (.build [(I 0), (U 0)] []) fun u => .op (.store 2 (.ptr t 0) u) fun _ => .ret .ret [.ptr t 0, I e]) S (fun tg vs S' => (tg = .normal ∨ tg = .ret) ∧ wp EM (.op (.load 2 true (nth vs 0)) fun v2 => .ret .ret [v2, (nth vs 1)]) S' fun tg vs S' => tg = .ret ∧ DTup x s m B0 W R ro (DoR s kind at' now) (oneOf vs) S') := by
    intro S e he H
    refine wp_none rfl (H.dropRo hro) fun S' H => ⟨rfl, -1, e, s, m, by rw [told_no (.inr rfl)]; rfl, ?_, h.bx, rfl, H⟩
    rcases he with ⟨rfl, hk⟩ | ⟨rfl, hk, hm⟩
    · exact .inl ⟨hk, rfl, rfl, rfl⟩
    · exact .inr (.inl ⟨hk, hm, rfl, rfl, rfl⟩)
  have fin : ∀ {S : AH} {a bv : AV} {r e : Int} {s' : Ms} {m' : Mv}, a = told s' r e → bv = I e → DoR s kind at' now r e s' → m'.bx.length = s'.mail.length → m'.vt = m.vt → Cx B0 W S (.obj t (.row [I 0, U 0]) :: (dOwn x s' m' ++ R)) ro →
      wp EM (.op (.store 2 (.ptr t 0) a) fun _ => .ret .ret [.ptr t 0, bv]) S (fun tg vs S' => (tg = .normal ∨ tg = .ret) ∧ wp EM (.op (.load 2 true (nth vs 0)) fun v2 => .ret .ret [v2, (nth vs 1)]) S' fun tg vs S' => tg = .ret ∧ DTup x s m B0 W R ro (DoR s kind at' now) (oneOf vs) S') := by
    intro S a bv r e s' m' ha hb hp h3 h4 H
    subst ha hb
    obtain ⟨a, b, hab⟩ := told_agg s' r e
    exact wp_tellT hab rfl H fun S' H => ⟨rfl, r, e, s', m', rfl, hp, h3, h4, H⟩
  have fin1 : ∀ {S : AH} {a bv : AV} {r e : Int} {s' : Ms} {m' : Mv} {k : List AV → AC}, a = told s' r e → bv = I e → DoR s kind at' now r e s' → m'.bx.length = s'.mail.length → m'.vt = m.vt → Cx B0 W S (.obj t (.row [I 0, U 0]) :: (dOwn x s' m' ++ R)) ro →
      wp EM (.op (.store 2 (.ptr t 0) a) fun _ => .ret .ret [bv]) S (boundTo EM (some 0) k (fun v27 => [.ptr t 0, (nth v27 0)]) (fun tg vs S' => (tg = .normal ∨ tg = .ret) ∧ wp EM (.op (.load 2 true (nth vs 0)) fun v2 => .ret .ret [v2, (nth vs 1)]) S' fun tg vs S' => tg = .ret ∧ DTup x s m B0 W R ro (DoR s kind at' now) (oneOf vs) S')) := by
    intro S a bv r e s' m' k ha hb hp h3 h4 H
    subst ha hb
    obtain ⟨a, b, hab⟩ := told_agg s' r e
    rw [hab]
    refine wp_store H 0 rfl rfl rfl (Nat.le_refl _) fun S1 H => ?_
    refine wp_ret ?_
    show (_ ∨ _) ∧ _
    refine ⟨.inr rfl, ?_⟩
    refine wp_loadoa (n := 2) H 0 rfl (Nat.le_refl _) ?_
    exact wp_ret ⟨rfl, r, e, s', m', by rw [hab]; rfl, hp, h3, h4, H.dropAt 0⟩
  try(refine zz ?_;(repeat constructor);intro _)
  refine wp_ld H (o := 0) (cs := [I kind, I at', I now]) (by repeat (first | exact List.Mem.head _ | apply List.Mem.tail)) rfl ?_
  refine wp_lss (fun hk1 => ?_) (fun hk1 => ?_)
  · try(refine zz ?_;(repeat constructor);intro _)
    exact bad 2 (.inl ⟨rfl, by omega⟩) H
  try(refine zz ?_;(repeat constructor);intro _)
  refine wp_ld H (o := 0) (cs := [I kind, I at', I now]) (by repeat (first | exact List.Mem.head _ | apply List.Mem.tail)) rfl ?_
  try(refine zz ?_;(repeat constructor);intro _)
  refine wp_gtr (fun hk5 => ?_) (fun hk5 => ?_)
  · try(refine zz ?_;(repeat constructor);intro _)
    exact bad 2 (.inl ⟨rfl, by omega⟩) H
  have hk : 1 ≤ kind ∧ kind ≤ 5 := ⟨hk1, hk5⟩
  try(refine zz ?_;(repeat constructor);intro _)
  refine wp_ld H (o := 0) (cs := [I kind, I at', I now]) (by repeat (first | exact List.Mem.head _ | apply List.Mem.tail)) rfl ?_
  refine wp_eql (fun hk => ?_) (fun hkn => ?_)
  · subst hk
    try(refine zz ?_;(repeat constructor);intro _)
    refine wp_ld H (o := 1) (cs := [I 1, I at', I now]) (by repeat (first | exact List.Mem.head _ | apply List.Mem.tail)) rfl ?_
    refine wp_lss (fun ha => ?_) (fun ha => ?_)
    · try(refine zz ?_;(repeat constructor);intro _)
      refine bad 3 (.inr ⟨rfl, hk, fun q => ?_⟩) H
      have := q.2.1; omega
    try(refine zz ?_;(repeat constructor);intro _)
    refine wp_ld H (o := 1) (cs := [I 1, I at', I now]) (by repeat (first | exact List.Mem.head _ | apply List.Mem.tail)) rfl ?_
    try(refine zz ?_;(repeat constructor);intro _)
    refine wp_row (j := 6) H 1 rfl rfl ?_
    try(refine zz ?_;(repeat constructor);intro _)
    refine wp_len H (v := m.vt) (es := 4) (L := tks s.T) (hro _ h.vt) ?_
    rw [tks_len]
    try(refine zz ?_;(repeat constructor);intro _)
    refine wp_geq (fun ha2 => ?_) (fun ha2 => ?_)
    · try(refine zz ?_;(repeat constructor);intro _)
      refine bad 3 (.inr ⟨rfl, hk, fun q => ?_⟩) H
      have := q.2.2; unfold most at this; rw [if_pos rfl] at this; omega
    try(refine zz ?_;(repeat constructor);intro _)
    refine wp_ld H (o := 2) (cs := [I 1, I at', I now]) (by repeat (first | exact List.Mem.head _ | apply List.Mem.tail)) rfl ?_
    try(refine zz ?_;(repeat constructor);intro _)
    refine wp_lss (fun hn => ?_) (fun hn => ?_)
    · try(refine zz ?_;(repeat constructor);intro _)
      refine bad 3 (.inr ⟨rfl, hk, fun q => ?_⟩) H
      have := q.1 rfl; omega
    try(refine zz ?_;(repeat constructor);intro _)
    refine wp_ld H (o := 2) (cs := [I 1, I at', I now]) (by repeat (first | exact List.Mem.head _ | apply List.Mem.tail)) rfl ?_
    try(refine zz ?_;(repeat constructor);intro _)
    refine wp_gtr (fun hn2 => ?_) (fun hn2 => ?_)
    · try(refine zz ?_;(repeat constructor);intro _)
      refine bad 3 (.inr ⟨rfl, hk, fun q => ?_⟩) H
      have := q.1 rfl; omega
    try(refine zz ?_;(repeat constructor);intro _)
    refine wp_ld H (o := 1) (cs := [I 1, I at', I now]) (by repeat (first | exact List.Mem.head _ | apply List.Mem.tail)) rfl ?_
    try(refine zz ?_;(repeat constructor);intro _)
    refine wp_ld H (o := 2) (cs := [I 1, I at', I now]) (by repeat (first | exact List.Mem.head _ | apply List.Mem.tail)) rfl ?_
    obtain ⟨a, rfl⟩ : ∃ a : Nat, at' = (a : Int) := ⟨at'.toNat, by omega⟩
    have hma : mayAt s 1 a now := ⟨fun _ => ⟨by omega, by omega⟩, by omega, by unfold most; rw [if_pos rfl]; omega⟩
    refine wp_hand (P' := DoR s 1 a now) H hro (rrelease_ok wf h.bx (hro _ h.vt) (t := a) (now := now) (by omega) (by omega) h.sq (Cx.inn H)) (fun r e s' p => .inr (.inr ⟨hk, hma, .inl ⟨rfl, by simpa using p⟩⟩)) fun S3 a1 b1 r e s' m' h1 h2 h3 h4 h5 H => ?_
    try(refine zz ?_;(repeat constructor);intro _)
    exact fin h1 h2 h3 h4 h5 H
  · try(refine zz ?_;(repeat constructor);intro _)
    refine wp_ld H (o := 1) (cs := [I kind, I at', I now]) (by repeat (first | exact List.Mem.head _ | apply List.Mem.tail)) rfl ?_
    refine wp_lss (fun ha => ?_) (fun ha => ?_)
    · try(refine zz ?_;(repeat constructor);intro _)
      refine bad 3 (.inr ⟨rfl, hk, fun q => ?_⟩) H
      have := q.2.1; omega
    try(refine zz ?_;(repeat constructor);intro _)
    refine wp_ld H (o := 1) (cs := [I kind, I at', I now]) (by repeat (first | exact List.Mem.head _ | apply List.Mem.tail)) rfl ?_
    try(refine zz ?_;(repeat constructor);intro _)
    refine wp_row (j := 0) H 1 rfl rfl ?_
    try(refine zz ?_;(repeat constructor);intro _)
    refine wp_geq (fun ha2 => ?_) (fun ha2 => ?_)
    · try(refine zz ?_;(repeat constructor);intro _)
      refine bad 3 (.inr ⟨rfl, hk, fun q => ?_⟩) H
      have := q.2.2; unfold most at this; rw [if_neg hkn] at this; omega
    obtain ⟨a, rfl⟩ : ∃ a : Nat, at' = (a : Int) := ⟨at'.toNat, by omega⟩
    have hma : mayAt s kind a now := ⟨fun h => absurd h hkn, by omega, by unfold most; rw [if_neg hkn]; omega⟩
    try(refine zz ?_;(repeat constructor);intro _)
    refine wp_ld H (o := 0) (cs := [I kind, I (a : Int), I now]) (by repeat (first | exact List.Mem.head _ | apply List.Mem.tail)) rfl ?_
    refine wp_bind ?_
    refine wp_eql (fun hk2 => ?_) (fun hk2 => ?_)
    · try(refine zz ?_;(repeat constructor);intro _)
      refine wp_ld H (o := 1) (cs := [I kind, I (a : Int), I now]) (by repeat (first | exact List.Mem.head _ | apply List.Mem.tail)) rfl ?_
      refine wp_hand (P' := DoR s kind a now) H hro (rtake_ok wf h.bx (c := a) ha2 (Cx.inn H)) (fun r e s' p => .inr (.inr ⟨hk, hma, .inr (.inl ⟨hk2, by simpa using p⟩)⟩)) fun S3 a1 b1 r e s' m' h1 h2 h3 h4 h5 H => ?_
      try(refine zz ?_;(repeat constructor);intro _)
      exact fin1 h1 h2 h3 h4 h5 H
    try(refine zz ?_;(repeat constructor);intro _)
    refine wp_eql (fun hk3 => ?_) (fun hk3 => ?_)
    · try(refine zz ?_;(repeat constructor);intro _)
      refine wp_ld H (o := 1) (cs := [I kind, I (a : Int), I now]) (by repeat (first | exact List.Mem.head _ | apply List.Mem.tail)) rfl ?_
      refine wp_hand (P' := DoR s kind a now) H hro (rpick_ok wf h.bx (c := a) ha2 (Cx.inn H)) (fun r e s' p => .inr (.inr ⟨hk, hma, .inr (.inr (.inl ⟨hk3, by simpa using p⟩))⟩)) fun S3 a1 b1 r e s' m' h1 h2 h3 h4 h5 H => ?_
      try(refine zz ?_;(repeat constructor);intro _)
      exact fin1 h1 h2 h3 h4 h5 H
    try(refine zz ?_;(repeat constructor);intro _)
    refine wp_eql (fun hk4 => ?_) (fun hk4 => ?_)
    · try(refine zz ?_;(repeat constructor);intro _)
      refine wp_ld H (o := 1) (cs := [I kind, I (a : Int), I now]) (by repeat (first | exact List.Mem.head _ | apply List.Mem.tail)) rfl ?_
      refine wp_hand (P' := DoR s kind a now) H hro (rserve_ok wf h.bx (c := a) ha2 (Cx.inn H)) (fun r e s' p => .inr (.inr ⟨hk, hma, .inr (.inr (.inr (.inl ⟨hk4, by simpa using p⟩)))⟩)) fun S3 a1 b1 r e s' m' h1 h2 h3 h4 h5 H => ?_
      try(refine zz ?_;(repeat constructor);intro _)
      exact fin1 h1 h2 h3 h4 h5 H
    · try(refine zz ?_;(repeat constructor);intro _)
      refine wp_ret ?_
      show wp EM _ _ _
      try(refine zz ?_;(repeat constructor);intro _)
      refine wp_ld H (o := 1) (cs := [I kind, I (a : Int), I now]) (by repeat (first | exact List.Mem.head _ | apply List.Mem.tail)) rfl ?_
      refine wp_hand (P' := DoR s kind a now) H hro (rcomplete_ok wf h.bx (c := a) ha2 (fun i q1 q2 => h.fr a i q1 q2) (Cx.inn H)) (fun r e s' p => .inr (.inr ⟨hk, hma, .inr (.inr (.inr (.inr ⟨by omega, by simpa using p⟩)))⟩)) fun S3 a1 b1 r e s' m' h1 h2 h3 h4 h5 H => ?_
      try(refine zz ?_;(repeat constructor);intro _)
      exact fin h1 h2 h3 h4 h5 H
end
end Go.Abs
namespace Go.Abs
open Go.Proofs
set_option maxRecDepth 100000
set_option linter.unusedVariables false
open Tsk (Tk tks tchk tks_get tks_len)
/-! ### what an operation comes to is one thing -/
theorem IsLeast.uniq {s : Ms} (wf : s.Wf) {y z : Lv} (hy : IsLeast y (rdy s.jobs)) (hz : IsLeast z (rdy s.jobs)) : y = z := by
  have h1 := hy.2 z hz.1
  have h2 := hz.2 y hy.1
  obtain ⟨i, hi, hyi⟩ := wf.of_mem (List.mem_filter.1 hy.1).1
  obtain ⟨j, hj, hzj⟩ := wf.of_mem (List.mem_filter.1 hz.1).1
  have : i = j := by unfold Lv.lt at h1 h2; omega
  subst this
  rw [hyi] at hzj
  exact Option.some.inj hzj
theorem IsMax.uniq {l : List Int} {c d : Nat} (h : IsMax l c) (k : IsMax l d) : c = d := by
  obtain ⟨y, h1, h2, h3⟩ := h
  obtain ⟨z, k1, k2, k3⟩ := k
  rcases Nat.lt_trichotomy c d with q | q | q
  · have := k3 c y q h1; have := h2 d z k1; omega
  · exact q
  · have := h3 d z q k1; have := k2 c y h1; omega
theorem Bal.det {s s1 s2 : Ms} (wf : s.Wf) (h : Bal s s1) (k : Bal s s2) : s1 = s2 := by
  rcases h with ⟨h0, rfl⟩ | ⟨z, c, w, h1, h2, h3, rfl⟩
  · rcases k with ⟨_, rfl⟩ | ⟨z, c, w, k1, _⟩
    · rfl
    · exact absurd k1.1 (by rw [h0]; simp)
  · rcases k with ⟨k0, _⟩ | ⟨z2, c2, w2, k1, k2, k3, rfl⟩
    · exact absurd h1.1 (by rw [k0]; simp)
    · have e1 := IsLeast.uniq wf h1 k1
      have e2 := IsMax.uniq h2 k2
      subst e1 e2
      rw [h3] at k3
      cases k3
      rfl
theorem PickR.det {s s1 s2 : Ms} {c : Nat} {r1 r2 e1 e2 : Int} (wf : s.Wf) (h : PickR s c r1 e1 s1) (k : PickR s c r2 e2 s2) : r1 = r2 ∧ e1 = e2 ∧ s1 = s2 := by
  rcases h with ⟨i, h1, h2, rfl, rfl, rfl⟩ | ⟨h1, h2, rfl, rfl, rfl⟩ | ⟨z, h1, h2, rfl, rfl, h5⟩ <;> rcases k with ⟨i', k1, k2, rfl, rfl, rfl⟩ | ⟨k1, k2, rfl, rfl, rfl⟩ | ⟨z', k1, k2, rfl, rfl, k5⟩
  · exact ⟨rfl, rfl, rfl⟩
  · rw [h1] at k1; cases k1; exact absurd rfl h2
  · rw [h1] at k1; cases k1; exact absurd rfl h2
  · rw [h1] at k1; cases k1; exact absurd rfl k2
  · exact ⟨rfl, rfl, rfl⟩
  · exact absurd k2.1 (by rw [h2]; simp)
  · rw [h1] at k1; cases k1; exact absurd rfl k2
  · exact absurd h2.1 (by rw [k2]; simp)
  · have e := IsLeast.uniq wf h2 k2
    subst e
    exact ⟨rfl, rfl, Bal.det (wf.claim h2) h5 k5⟩
theorem TakeR.det {s s1 s2 : Ms} {c : Nat} {r1 r2 e1 e2 : Int} (wf : s.Wf) (h : TakeR s c r1 e1 s1) (k : TakeR s c r2 e2 s2) : r1 = r2 ∧ e1 = e2 ∧ s1 = s2 := by
  rcases h with ⟨h1, rfl, rfl, rfl⟩ | ⟨i, l, y, h1, h2, rfl, rfl, h3⟩ <;> rcases k with ⟨k1, rfl, rfl, rfl⟩ | ⟨i', l', y', k1, k2, rfl, rfl, k3⟩
  · exact ⟨rfl, rfl, rfl⟩
  · rw [h1] at k1; cases k1
  · rw [h1] at k1; cases k1
  · rw [h1] at k1; cases k1
    rw [h2] at k2; cases k2
    exact ⟨rfl, rfl, Bal.det (wf.takes h1 h2) h3 k3⟩
theorem EndR.det {s s1 s2 : Ms} {c : Nat} {r1 r2 e1 e2 : Int} (wf : s.Wf) (hf : ∀ i, s.runs[c]? = some i → i ≠ -1 → s.free.length < s.jobs.length) (h : EndR s c r1 e1 s1) (k : EndR s c r2 e2 s2) : r1 = r2 ∧ e1 = e2 ∧ s1 = s2 := by
  rcases h with ⟨h1, rfl, rfl, rfl⟩ | ⟨i, y, h1, h2, h3, rfl, rfl, h4⟩ <;> rcases k with ⟨k1, rfl, rfl, rfl⟩ | ⟨i', y', k1, k2, k3, rfl, rfl, k4⟩
  · exact ⟨rfl, rfl, rfl⟩
  · rw [h1] at k1; cases k1; exact absurd rfl k2
  · rw [h1] at k1; cases k1; exact absurd rfl h2
  · rw [h1] at k1; cases k1
    rw [h3] at k3; cases k3
    obtain ⟨n, rfl, z, hz, hzj⟩ := wf.run h1 h2
    rw [Int.toNat_natCast, hz] at h3; cases h3
    exact ⟨rfl, rfl, Bal.det (wf.ends hz hzj (hf _ h1 h2)) h4 k4⟩
theorem ThenPick.det {s s1 s2 : Ms} {c : Nat} {r1 r2 e1 e2 : Int} (wf : s.Wf) (h : ThenPick s c r1 e1 s1) (k : ThenPick s c r2 e2 s2) : r1 = r2 ∧ e1 = e2 ∧ s1 = s2 := by
  obtain ⟨ra, ea, hp, ha⟩ := h
  obtain ⟨rb, eb, kp, kb⟩ := k
  obtain ⟨rfl, rfl, rfl⟩ := PickR.det wf hp kp
  by_cases he : ea = 15
  · rw [if_pos he] at ha kb; exact ⟨by omega, by omega, rfl⟩
  · rw [if_neg he] at ha kb; exact ⟨by omega, by omega, rfl⟩
theorem ServeR.det {s s1 s2 : Ms} {c : Nat} {r1 r2 e1 e2 : Int} (wf : s.Wf) (h : ServeR s c r1 e1 s1) (k : ServeR s c r2 e2 s2) : r1 = r2 ∧ e1 = e2 ∧ s1 = s2 := by
  rcases h with ⟨h1, rfl, rfl, rfl⟩ | ⟨h1, h2, h3⟩ | ⟨i, y, h1, h2, h3, h4, h5⟩ <;> rcases k with ⟨k1, rfl, rfl, rfl⟩ | ⟨k1, k2, k3⟩ | ⟨i', y', k1, k2, k3, k4, k5⟩
  · exact ⟨rfl, rfl, rfl⟩
  · rw [h1] at k1; cases k1
  · rw [h1] at k1; cases k1
  · rw [h1] at k1; cases k1
  · exact ThenPick.det wf.setFlag h3 k3
  · rw [h2] at k2; cases k2; exact absurd rfl k3
  · rw [h1] at k1; cases k1
  · rw [h2] at k2; cases k2; exact absurd rfl h3
  · rw [h2] at k2; cases k2
    rw [h4] at k4; cases k4
    rcases h5 with ⟨a1, rfl, rfl, rfl⟩ | ⟨a1, a2⟩ <;> rcases k5 with ⟨b1, rfl, rfl, rfl⟩ | ⟨b1, b2⟩
    · exact ⟨rfl, rfl, rfl⟩
    · exact absurd a1 b1
    · exact absurd b1 a1
    · obtain ⟨n, rfl, z, hz, hzj⟩ := wf.run h2 h3
      rw [Int.toNat_natCast, hz] at h4; cases h4
      exact ThenPick.det (wf.gives hz hzj a1) a2 b2
theorem RelR.det {s s1 s2 : Ms} {t : Nat} {now r1 r2 e1 e2 : Int} (h : RelR s t now r1 e1 s1) (k : RelR s t now r2 e2 s2) : r1 = r2 ∧ e1 = e2 ∧ s1 = s2 := by
  obtain ⟨last, a, h1, h2, h⟩ := h
  obtain ⟨last', a', k1, k2, k⟩ := k
  rw [h1] at k1; cases k1
  rw [h2] at k2; cases k2
  rcases h with ⟨p1, p2, rfl, rfl, rfl⟩ | ⟨p1, h⟩ <;> rcases k with ⟨q1, q2, rfl, rfl, rfl⟩ | ⟨q1, k⟩
  · exact ⟨rfl, rfl, rfl⟩
  · exact absurd ⟨p1, p2⟩ q1
  · exact absurd ⟨q1, q2⟩ p1
  · rcases h with ⟨p2, rfl, rfl, rfl⟩ | ⟨i, f, p2, h⟩ <;> rcases k with ⟨q2, rfl, rfl, rfl⟩ | ⟨i', f', q2, k⟩
    · exact ⟨rfl, rfl, rfl⟩
    · rw [p2] at q2; cases q2
    · rw [p2] at q2; cases q2
    · rw [p2] at q2; cases q2
      rcases h with ⟨p3, rfl, rfl, rfl⟩ | ⟨p3, hh, box, p4, p5, h⟩ <;> rcases k with ⟨q3, rfl, rfl, rfl⟩ | ⟨q3, hh', box', q4, q5, k⟩
      · exact ⟨rfl, rfl, rfl⟩
      · omega
      · omega
      · have : hh = hh' := by omega
        subst this
        rw [p5] at q5; cases q5
        rcases h with ⟨p6, rfl, rfl, rfl⟩ | ⟨p6, rfl, rfl, rfl⟩ <;> rcases k with ⟨q6, rfl, rfl, rfl⟩ | ⟨q6, rfl, rfl, rfl⟩
        · exact ⟨rfl, rfl, rfl⟩
        · exact absurd p6 q6
        · exact absurd q6 p6
        · exact ⟨rfl, rfl, rfl⟩
theorem DoR.det {s s1 s2 : Ms} {kind at' now r1 r2 e1 e2 : Int} (wf : s.Wf) (hf : ∀ (c : Nat) (i : Int), s.runs[c]? = some i → i ≠ -1 → s.free.length < s.jobs.length) (h : DoR s kind at' now r1 e1 s1) (k : DoR s kind at' now r2 e2 s2) : r1 = r2 ∧ e1 = e2 ∧ s1 = s2 := by
  rcases h with ⟨h1, rfl, rfl, rfl⟩ | ⟨h1, h2, rfl, rfl, rfl⟩ | ⟨h1, h2, h3⟩ <;> rcases k with ⟨k1, rfl, rfl, rfl⟩ | ⟨k1, k2, rfl, rfl, rfl⟩ | ⟨k1, k2, k3⟩
  · exact ⟨rfl, rfl, rfl⟩
  · exact absurd k1 h1
  · exact absurd k1 h1
  · exact absurd h1 k1
  · exact ⟨rfl, rfl, rfl⟩
  · exact absurd k2 h2
  · exact absurd h1 k1
  · exact absurd h2 k2
  · rcases h3 with ⟨p, h3⟩ | ⟨p, h3⟩ | ⟨p, h3⟩ | ⟨p, h3⟩ | ⟨p, h3⟩ <;> rcases k3 with ⟨q, k3⟩ | ⟨q, k3⟩ | ⟨q, k3⟩ | ⟨q, k3⟩ | ⟨q, k3⟩ <;> first | omega | skip
    · exact RelR.det h3 k3
    · exact TakeR.det wf h3 k3
    · exact PickR.det wf h3 k3
    · exact ServeR.det wf h3 k3
    · exact EndR.det wf (hf _) h3 k3
end Go.Abs
