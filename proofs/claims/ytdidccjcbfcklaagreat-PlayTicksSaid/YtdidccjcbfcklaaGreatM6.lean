/- functions of this cut: what they compute, in the abstract machine. Conditions: stated in each theorem -/
import Derived.Test.YtdidccjcbfcklaaGreatM5
set_option linter.unusedVariables false
set_option linter.unusedSectionVars false
set_option linter.unusedSimpArgs false
set_option linter.unusedSectionVars false
namespace Go.Abs.X
variable [Ek]
open Go.Proofs
set_option maxRecDepth 100000
set_option linter.unusedVariables false
/-! ### operations are begun: their parts -/
section
variable {B0 S : AH} {W : List Nat} {own : List Own} {ro : List Fct} {Q : Post} {k : AV → AC}
theorem runsB {n : Nat} {x y : AV} (hx : Fv x) (hy : Fv y) : wp EM (.op (.box x) fun v1 => .op (.box y) fun v2 => .op (.alloc [Np]) fun v3 => .op (.alloc [B false]) fun v4 => .op (.store 1 v4 (B false)) fun v5 => .ret .ret [.fn (.func n) [] [v4, v1, v3, v2]]) S fun t vs S' => t = .ret ∧ (Fv (oneOf vs) ∧ Grows S S') := by
  have H : Cx S [] S [] [] := Cx.enter (by simp)
  refine wp_box H hx.1 fun p S1 H => ?_
  refine wp_box H hy.1 fun q S2 H => ?_
  refine wp_alloc H fun a S3 H => ?_
  refine wp_alloc H fun b S4 H => ?_
  refine wp_store H 0 (c := [B false]) rfl rfl rfl (by simp) fun S5 H => ?_
  exact wp_ret ⟨rfl, fvFn, H.grows⟩
variable {x y : AV}
theorem runsPass_ok (hx : Fv x) (hy : Fv y) : wpC EM (.fn (.func 180) [] []) [x, y] S fun r S' => Fv r ∧ Grows S S' := wpC_fn (b := Tryz.a180) rfl rfl (runsB hx hy)
theorem runsTake_ok (hx : Fv x) (hy : Fv y) : wpC EM (.fn (.func 186) [] []) [x, y] S fun r S' => Fv r ∧ Grows S S' := wpC_fn (b := Tryz.a186) rfl rfl (runsB hx hy)
theorem runsSend_ok (hx : Fv x) (hy : Fv y) : wpC EM (.fn (.func 199) [] []) [x, y] S fun r S' => Fv r ∧ Grows S S' := wpC_fn (b := Tryz.a199) rfl rfl (runsB hx hy)
theorem runsKey_ok (hx : Fv x) (hy : Fv y) : wpC EM (.fn (.func 274) [] []) [x, y] S fun r S' => Fv r ∧ Grows S S' := wpC_fn (b := Tryz.a274) rfl rfl (runsB hx hy)
theorem runsPut_ok (hx : Fv x) (hy : Fv y) : wpC EM (.fn (.func 295) [] []) [x, y] S fun r S' => Fv r ∧ Grows S S' := wpC_fn (b := Tryz.a295) rfl rfl (runsB hx hy)
theorem once_ok (hx : Fv x) : wpC EM (.fn (.func 192) [] []) [x] S fun r S' => Fv r ∧ Grows S S' := by
  refine wpC_fn (b := Tryz.a192) rfl rfl ?_
  have H : Cx S [] S [] [] := Cx.enter (by simp)
  rw [Tryz.u192]
  refine wp_box H hx.1 fun p S1 H => ?_
  exact wp_ret ⟨rfl, fvFn, H.grows⟩
theorem lays_ok (hx : Fv x) (hy : Fv y) : wpC EM (.fn (.func 197) [] []) [x, y] S fun r S' => Fv r ∧ Grows S S' := by
  refine wpC_fn (b := Tryz.a197) rfl rfl ?_
  have H : Cx S [] S [] [] := Cx.enter (by simp)
  rw [Tryz.u197]
  refine wp_box H hx.1 fun p S1 H => ?_
  refine wp_box H hy.1 fun p S1 H => ?_
  refine wp_callG H (runsKey_ok fvFn fvNf) fun v S2 hv H => ?_
  exact wp_ret ⟨rfl, hv, H.grows⟩
theorem put_ok {h : Int} (hx : Fv x) (hy : Fv y) : wpC EM (.fn (.func 211) [] []) [x, y, I h] S fun r S' => Fv r ∧ Grows S S' := by
  refine wpC_fn (b := Tryz.a211) rfl rfl ?_
  have H : Cx S [] S [] [] := Cx.enter (by simp)
  rw [Tryz.u211]
  refine wp_box H hx.1 fun p S1 H => ?_
  refine wp_box H hy.1 fun p S1 H => ?_
  refine wp_box H rfl fun p S1 H => ?_
  refine wp_callG H (runsPut_ok fvFn fvFn) fun v S2 hv H => ?_
  exact wp_ret ⟨rfl, hv, H.grows⟩
end
/-! ### scripts: what tells the parts -/
def Tell1 (B0 : AH) (W : List Nat) (ro : List Fct) (l : Nat) (P P' : List Own → Prop) : Prop := ∀ e E own S ro', (∀ φ ∈ ro, φ ∈ ro') → Fv e → P own → Cx B0 W S (E ++ own) ro' → wpC EM (.yd l) [e] S fun v S' => v = B true ∧ ∃ own', Cx B0 W S' (E ++ own') ro' ∧ P' own'
def but32 (c c' : List AV) : Prop := c'.length = c.length ∧ ∀ j, j ≠ 32 → c'[j]? = c[j]?
def Script (B0 : AH) (W : List Nat) (ro : List Fct) (f : AV) (x : Nat) (c : List AV) : Prop := ∀ l (P : Nat → List Own → Prop), (∀ n, n < 16 → Tell1 B0 W ro l (P n) (P (n + 1))) → ∀ E own S, P 0 own → Cx B0 W S (.obj x (.row c) :: (E ++ own)) ro →
  wpC EM f [.yd l] S fun _ S' => ∃ n c' own', 1 ≤ n ∧ n ≤ 16 ∧ but32 c c' ∧ Cx B0 W S' (.obj x (.row c') :: (E ++ own')) ro ∧ P n own'
theorem but32.rfl' {c : List AV} : but32 c c := ⟨rfl, fun _ _ => rfl⟩
section
variable {B0 S : AH} {W : List Nat} {own : List Own} {ro : List Fct}
theorem script_release {x b1 b2 b3 b4 : Nat} {c : List AV} (h1 : Fct.pt b1 0 [.ptr x 0] ∈ ro) : Script B0 W ro (.fn (.func 179) [] [.ptr b1 0, .ptr b2 0, .ptr b3 0, .ptr b4 0]) x c := by
  intro l P hT E own S hP H
  refine wpC_fn (b := Tryz.a179) rfl rfl ?_
  rw [Tryz.u179]
  have fx : Fv (.ptr x 0) := ⟨rfl, rfl⟩
  refine wp_callG H (runsPass_ok fvFn fvFn) fun p S1 hp H => ?_
  try(refine zz ?_;(repeat constructor);intro _)
  refine wp_call (wpC_mono (hT 0 (by omega) _ (_ :: _) _ _ _ (fun _ h => h) hp hP H) fun r S2 q => ?_)
  obtain ⟨rfl, own, H, hP⟩ := q
  try(refine zz ?_;(repeat constructor);intro _)
  refine wp_callG H (runsTake_ok fvFn fvFn) fun p S1 hp H => ?_
  try(refine zz ?_;(repeat constructor);intro _)
  refine wp_call (wpC_mono (hT 1 (by omega) _ (_ :: _) _ _ _ (fun _ h => h) hp hP H) fun r S2 q => ?_)
  obtain ⟨rfl, own, H, hP⟩ := q
  try(refine zz ?_;(repeat constructor);intro _)
  refine wp_callG H (once_ok fvFn) fun p S1 hp H => ?_
  try(refine zz ?_;(repeat constructor);intro _)
  refine wp_call (wpC_mono (hT 2 (by omega) _ (_ :: _) _ _ _ (fun _ h => h) hp hP H) fun r S2 q => ?_)
  obtain ⟨rfl, own, H, hP⟩ := q
  try(refine zz ?_;(repeat constructor);intro _)
  refine wp_ld H h1 rfl ?_
  try(refine zz ?_;(repeat constructor);intro _)
  refine wp_callG H (lays_ok fx fvFn) fun p S1 hp H => ?_
  try(refine zz ?_;(repeat constructor);intro _)
  refine wp_call (wpC_mono (hT 3 (by omega) _ (_ :: _) _ _ _ (fun _ h => h) hp hP H) fun r S2 q => ?_)
  obtain ⟨rfl, own, H, hP⟩ := q
  try(refine zz ?_;(repeat constructor);intro _)
  refine wp_callG H (runsSend_ok fvFn fvFn) fun p S1 hp H => ?_
  try(refine zz ?_;(repeat constructor);intro _)
  refine wp_call (wpC_mono (hT 4 (by omega) _ (_ :: _) _ _ _ (fun _ h => h) hp hP H) fun r S2 q => ?_)
  obtain ⟨rfl, own, H, hP⟩ := q
  try(refine zz ?_;(repeat constructor);intro _)
  exact wp_ret ⟨rfl, 5, c, own, by omega, by omega, but32.rfl', H, hP⟩
end
end Go.Abs.X
set_option linter.unusedSectionVars false
namespace Go.Abs.X
variable [Ek]
open Go.Proofs
set_option maxRecDepth 100000
set_option linter.unusedVariables false
section
variable {B0 S : AH} {W : List Nat} {own : List Own} {ro : List Fct} {Q : Post} {k : AV → AC} {v : AV}
theorem but32.set {c : List AV} {v : AV} : but32 c (c.set 32 v) := ⟨List.length_set .., fun j hj => by rw [List.getElem?_set, if_neg (fun e => hj e.symm)]⟩
def same3 (c c' : List AV) : Prop := c'.length = c.length ∧ ∀ j, j ≠ 31 → j ≠ 32 → c'[j]? = c[j]?
theorem follows_ok {f : AV} {x : Nat} {c : List AV} (hf : ∀ i, f ≠ .yd i) (hc : c[31]? = some Ns) (hs : Script B0 W ro f x c) (H : Cx B0 W S (.obj x (.row c) :: own) ro) :
    wpC EM (.fn (.func 130) [] []) [.ptr x 0, f] S fun _ S' => ∃ c' s n, same3 c c' ∧ c'[31]? = some s ∧ 1 ≤ n ∧ (∀ S1, evalOp EM.P (.len false s) S1 = some (I (n : Nat), S1)) ∧ Cx B0 W S' (.obj x (.row c') :: own) ro := by
  refine wpC_fn (b := Tryz.a130) rfl rfl ?_
  unfold Tryz.a130 Tryz.a130x6 Tryz.a130x5 Tryz.a130x4 Tryz.a130x3 Tryz.a130x2 Tryz.a130x1 Tryz.a130x0 
  refine wp_alloc H fun a S1 H => ?_
  have H : Cx B0 W S1 (.sl Ns 1 [] :: .obj a (.row [Ns]) :: .obj x (.row c) :: own) ro := H.addOwn (x := .sl Ns 1 []) (Grows.refl _) (.inl ⟨rfl, rfl⟩) (by simp [Own.ids, vids])
  refine wp_bind (wp_rng hf ?_)
  have H1 := H.addOwn (x := .obj S1.next (.loop .ready none 1 fun v2 => Tryz.a130x1 (.ptr a 0) v2)) (Grows.new S1 (.loop .ready none 1 fun v2 => Tryz.a130x1 (.ptr a 0) v2)) (get_new_same _ _) (fun j hj => by
    simp only [Own.ids, List.mem_singleton] at hj
    subst hj
    exact ⟨Nat.le_refl _, by simp⟩)
  have H1 := H1.permS (own' := .obj x (.row c) :: (own ++ [.obj S1.next (.loop .ready none 1 fun v2 => Tryz.a130x1 (.ptr a 0) v2), .sl Ns 1 [], .obj a (.row [Ns])])) ((List.perm_middle (l₁ := [_, _, _]) (l₂ := own)).trans (List.Perm.cons _ List.perm_append_comm))
  refine wpC_mono (hs S1.next (fun n o => ∃ s L, o = [.obj S1.next (.loop .ready none 1 fun v2 => Tryz.a130x1 (.ptr a 0) v2), .sl s 1 (vals L), .obj a (.row [s])] ∧ L.length = n ∧ ∀ e ∈ L, Fv e) ?_ own _ _ ⟨Ns, [], rfl, rfl, by simp⟩ H1) ?_
  · rintro n hn e E o S2 ro' hro he ⟨s, L, rfl, hL, hL2⟩ H
    have K := H.permS List.perm_append_comm
    refine wpC_mono (wpC_ydO (R := fun S' => ∃ own', Cx B0 W S' (E ++ own') ro' ∧ ∃ s L, own' = [.obj S1.next (.loop .ready none 1 fun v2 => Tryz.a130x1 (.ptr a 0) v2), .sl s 1 (vals L), .obj a (.row [s])] ∧ L.length = n + 1 ∧ ∀ e ∈ L, Fv e) K 0 rfl rfl ?_) fun v S' q => q
    unfold Tryz.a130x1 Tryz.a130x0 
    refine wp_startO K 0 rfl fun S3 K => ?_
    refine wp_bind ?_
    refine wp_row (j := 0) K 2 rfl rfl ?_
    have hlen : (vals L).length = n := by rw [vals, List.length_map, hL]
    refine wp_push (L := vals L) K 1 rfl he.1 (by show e.cells.length = 1; rw [he.2]; rfl) rfl (by rw [hlen]; unfold maxBytes; omega) (by rw [hlen]; unfold maxLenN; omega) fun s1 S4 K => ?_
    have hs1 : Fv s1 := slOk_one (ownSl_ok (K.oh _ (List.Mem.tail _ (List.Mem.head _))))
    refine wp_set1 (j := 0) K 2 rfl (by simp) hs1 fun S5 K => ?_
    refine wp_ret ?_
    show wp EM _ _ _
    refine wp_ret ⟨rfl, _, _, K, rfl, fun S6 K => ⟨[.obj S1.next (.loop .ready none 1 fun v2 => Tryz.a130x1 (.ptr a 0) v2), .sl s1 1 (vals (L ++ [e])), .obj a (.row [s1])], ?_, s1, L ++ [e], rfl, by simp [hL], ?_⟩⟩
    · refine (?_ : Cx B0 W S6 ([_, _, _] ++ E) ro').permS List.perm_append_comm
      have e1 : vals (L ++ [e]) = vals L ++ [e.cells] := by rw [vals, List.map_append, he.2]; rfl
      rw [e1]
      exact K
    · intro y hy
      rcases List.mem_append.1 hy with h | h
      · exact hL2 y h
      · rw [List.mem_singleton.1 h]; exact he
  · rintro v S2 ⟨n, c', o, hn, hn16, hb, H, s, L, rfl, hL, hL2⟩
    have K := H.permS ((List.Perm.cons _ List.perm_append_comm).trans (List.perm_middle (l₁ := [_, _, _]) (l₂ := own)).symm)
    refine ⟨.ready, none, 1, _, K.oh _ (List.Mem.head _), by simp, ?_⟩
    have K := (K.setOb (n := 0) rfl (.loop .exhausted none 1 fun v2 => Tryz.a130x1 (.ptr a 0) v2)).dropAt 0
    generalize S2.set S1.next _ = S3 at K
    have K : Cx B0 W S3 (.sl s 1 (vals L) :: .obj a (.row [s]) :: .obj x (.row c') :: own) ro := K
    refine wp_ret ?_
    show wp EM _ _ _
    refine wp_row (j := 0) K 1 rfl rfl ?_
    refine wp_leno K 0 rfl ?_
    have hlen : (vals L).length = n := by rw [vals, List.length_map, hL]
    rw [hlen]
    refine wp_sub64 (by omega) (by omega) ?_
    have K := K.addOwn (x := .sl Ns 1 []) (Grows.refl _) (.inl ⟨rfl, rfl⟩) (by simp [Own.ids, vids])
    refine wp_bind (wp_loop (wpL_for n (fun i vs S => vs = [I ((n : Int) - 1 - i)] ∧ ∃ c2 t T, same3 c c2 ∧ c2[31]? = some t ∧ T.length = i ∧ Cx B0 W S (.sl t 1 T :: .sl s 1 (vals L) :: .obj a (.row [s]) :: .obj x (.row c2) :: own) ro) ?_ ?_ ⟨by simp, c', Ns, [], ⟨hb.1, fun j h31 h32 => hb.2 j h32⟩, by rw [hb.2 31 (by omega)]; exact hc, rfl, K⟩))
    · rintro i vs S4 hi ⟨rfl, c2, t, T, h3, h31, hT, H⟩
      have h32 : 31 < c2.length := (List.getElem?_eq_some_iff.1 h31).1
      have hk : n - 1 - i < L.length := by omega
      have hnum : (n : Int) - 1 - i = ((n - 1 - i : Nat) : Int) := by omega
      rw [hnum]
      refine wp_geq_t (by omega) ?_
      try(refine zz ?_;(repeat constructor);intro _)
      refine wp_bind ?_
      try(refine zz ?_;(repeat constructor);intro _)
      refine wp_row (j := 31) H 3 rfl h31 ?_
      refine wp_row (j := 0) H 2 rfl rfl ?_
      refine wp_saddro H 1 rfl (show (vals L)[n - 1 - i]? = some [L[n - 1 - i]] by rw [vals, List.getElem?_map, List.getElem?_eq_getElem hk]; rfl) fun id off hp => ?_
      have he : Fv L[n - 1 - i] := hL2 _ (List.getElem_mem hk)
      generalize L[n - 1 - i] = e at he hp
      refine wp_loadF0 hp ?_
      refine wp_push (L := T) H 0 rfl he.1 (by rw [he.2]; rfl) rfl (by unfold maxBytes; omega) (by unfold maxLenN; omega) fun t1 S5 H => ?_
      have ht1 : Fv t1 := slOk_one (ownSl_ok (H.oh _ (List.Mem.head _)))
      try(refine zz ?_;(repeat constructor);intro _)
      refine wp_set1 (j := 31) H 3 rfl h32 ht1 fun S6 H => ?_
      refine wp_ret ?_
      show wp EM _ _ _
      refine wp_sub64 (by omega) (by omega) ?_
      refine wp_ret (.inl ⟨rfl, ?_, c2.set 31 t1, t1, T ++ [e.cells], ⟨by rw [List.length_set]; exact h3.1, fun j h1 h2 => by rw [List.getElem?_set, if_neg (fun e => h1 e.symm)]; exact h3.2 j h1 h2⟩, by rw [List.getElem?_set, if_pos rfl, if_pos h32], by simp [hT], H⟩)
      rw [show ((n - 1 - i : Nat) : Int) - 1 = (n : Int) - 1 - ((i + 1 : Nat) : Int) by omega]
    · rintro vs S4 ⟨rfl, c2, t, T, h3, h31, hT, H⟩
      refine wp_geq_f (by omega) ?_
      try(refine zz ?_;(repeat constructor);intro _)
      refine wp_ret ⟨by simp, ?_⟩
      show wp EM _ _ _
      refine wp_ret ⟨rfl, c2, t, n, h3, h31, hn, fun S1 => ?_, ((H.dropAt 0).dropAt 0).dropAt 0⟩
      rw [← hT]
      exact slW_len (H.oh _ (List.Mem.head _)) S1
end
end Go.Abs.X
set_option linter.unusedSectionVars false
namespace Go.Abs.X
variable [Ek]
open Go.Proofs
set_option maxRecDepth 100000
set_option linter.unusedVariables false
open Tsk (Tk tks tchk tks_get)
/-! ### operations, begun -/
def opRow (e : Ex) (v : AV) (kind c err : Int) : List AV := e.cs v ++ [I kind, I c, Ns, Ns, I 0, U 0, U 0, B false, U 0, I err]
def begE (e : Ex) (l : List Tk) (bad : Prop) [Decidable bad] : Int := if ¬ e.ok l then 2 else if bad then 3 else 0
section
variable {B0 S : AH} {W : List Nat} {own : List Own} {ro : List Fct} {Q : Post} {v : AV} {e : Ex} {l : List Tk}
theorem begun_ok {kind c : Int} {bad : Prop} [Decidable bad] (hv : Fct.sl v 4 (tks l) ∈ ro) (H : Cx B0 W S own ro) : wpC EM (.fn (.func 129) [] []) [.agg (e.cs v), I kind, I c, B (decide bad)] S fun r S' => ∃ x, r = .ptr x 0 ∧ Cx B0 W S' (.obj x (.row (opRow e Ns kind c (begE e l bad))) :: own) ro := by
  refine wpC_fn (b := Tryz.a129) rfl rfl ?_
  unfold Tryz.a129 Tryz.a129x3 Tryz.a129x2 Tryz.a129x1 Tryz.a129x0 
  refine wp_box H rfl fun p S1 H => ?_
  refine wp_ldn H (by repeat (first | exact List.Mem.head _ | apply List.Mem.tail)) rfl ?_
  refine wp_op (v := .agg (opRow e v kind c 0)) rfl ?_
  refine wp_boxOwn H rfl fun x S2 H => ?_
  have H : Cx B0 W S2 (.obj x (.row (opRow e v kind c 0)) :: own) (.pt p 0 (e.cs v) :: ro) := H
  have fin : ∀ err S3, Cx B0 W S3 (.obj x (.row (opRow e v kind c err)) :: own) (.pt p 0 (e.cs v) :: ro) → err = begE e l bad → wp EM (Tryz.a129x3 (.ptr x 0)) S3 fun t vs S' => t = .ret ∧ ∃ x, oneOf vs = .ptr x 0 ∧ Cx B0 W S' (.obj x (.row (opRow e Ns kind c (begE e l bad))) :: own) ro := by
    intro err S3 H he
    unfold Tryz.a129x3 
    try(refine zz ?_;(repeat constructor);intro _)
    refine wp_set1 (j := 28) H 0 rfl (by simp [opRow, Ex.cs]) ⟨rfl, rfl⟩ fun S4 H => ?_
    refine wp_ret ⟨rfl, x, rfl, ?_⟩
    rw [← he]
    exact H.tl
  unfold Tryz.a129x3 at fin
  refine wp_bind ?_
  refine wp_ldn H (by repeat (first | exact List.Mem.head _ | apply List.Mem.tail)) rfl ?_
  refine wp_callV H (soundE_ok (e := e) (l := l) (v := v) (List.mem_cons_of_mem _ hv) H) fun S3 H => ?_
  refine wp_not ?_
  by_cases he : e.ok l
  · rw [decide_eq_true he]
    refine wp_bind ?_
    try(refine zz ?_;(repeat constructor);intro _)
    refine wp_bind ?_
    by_cases hb : bad
    · rw [decide_eq_true hb]
      try(refine zz ?_;(repeat constructor);intro _)
      refine wp_set1 (j := 38) H 0 rfl (by simp [opRow, Ex.cs]) ⟨rfl, rfl⟩ fun S4 H => ?_
      refine wp_ret ?_
      show wp EM _ _ _
      refine wp_ret ?_
      show wp EM _ _ _
      refine wp_ret ?_
      show wp EM _ _ _
      exact fin 3 _ H (by unfold begE; rw [if_neg (fun h => h he), if_pos hb])
    · rw [decide_eq_false hb]
      try(refine zz ?_;(repeat constructor);intro _)
      refine wp_ret ?_
      show wp EM _ _ _
      refine wp_ret ?_
      show wp EM _ _ _
      refine wp_ret ?_
      show wp EM _ _ _
      exact fin 0 _ H (by unfold begE; rw [if_neg (fun h => h he), if_neg hb])
  · rw [decide_eq_false he]
    refine wp_bind ?_
    try(refine zz ?_;(repeat constructor);intro _)
    refine wp_set1 (j := 38) H 0 rfl (by simp [opRow, Ex.cs]) ⟨rfl, rfl⟩ fun S4 H => ?_
    refine wp_ret ?_
    show wp EM _ _ _
    refine wp_ret ?_
    show wp EM _ _ _
    exact fin 2 _ H (by unfold begE; rw [if_pos he])
def badC (e : Ex) (c h : Int) : Prop := c < 0 ∨ e.rcores ≤ c ∨ h < 1 ∨ e.t.ht < h
instance (e : Ex) (c h : Int) : Decidable (badC e c h) := inferInstanceAs (Decidable (_ ∨ _))
end
end Go.Abs.X
set_option linter.unusedSectionVars false
namespace Go.Abs.X
variable [Ek]
open Go.Proofs
set_option maxRecDepth 100000
set_option linter.unusedVariables false
open Tsk (Tk tks tchk tks_get tks_len)
def pOp (c : List AV) (kind err : Int) : Prop := c.length = 39 ∧ c[29]? = some (I kind) ∧ c[37]? = some (U 0) ∧ c[38]? = some (I err) ∧ ((err ≠ 0 ∧ c[31]? = some Ns) ∨ (err = 0 ∧ ∃ s n, c[31]? = some s ∧ 1 ≤ n ∧ ∀ S1, evalOp EM.P (.len false s) S1 = some (I (n : Nat), S1)))
def badR (l : List Tk) (t now : Int) : Prop := t < 0 ∨ l.length ≤ t ∨ now < 0 ∨ 1099511627776 < now
instance (l : List Tk) (t now : Int) : Decidable (badR l t now) := inferInstanceAs (Decidable (_ ∨ _))
theorem begE_ok {e : Ex} {l : List Tk} {bad : Prop} [Decidable bad] (h : begE e l bad = 0) : e.ok l ∧ ¬ bad := by
  unfold begE at h
  split at h
  · omega
  · next h1 =>
    split at h
    · omega
    · next h2 => exact ⟨Decidable.of_not_not h1, h2⟩
section
variable {B0 S : AH} {W : List Nat} {own : List Own} {ro : List Fct} {Q : Post} {v : AV} {e : Ex} {l : List Tk}
theorem pOp_bad {kind c err : Int} (h : err ≠ 0) : pOp (opRow e Ns kind c err) kind err := ⟨rfl, rfl, rfl, rfl, .inl ⟨h, rfl⟩⟩
theorem pOp_go {kind c : Int} {c' : List AV} {s : AV} {n : Nat} (h3 : same3 (opRow e Ns kind c 0) c') (hs : c'[31]? = some s) (hn : 1 ≤ n) (hl : ∀ S1, evalOp EM.P (.len false s) S1 = some (I (n : Nat), S1)) : pOp c' kind 0 :=
  ⟨h3.1, by rw [h3.2 29 (by omega) (by omega)]; rfl, by rw [h3.2 37 (by omega) (by omega)]; rfl, by rw [h3.2 38 (by omega) (by omega)]; rfl, .inr ⟨rfl, s, n, hs, hn, hl⟩⟩
theorem newRelease_ok {t now : Int} (hv : Fct.sl v 4 (tks l) ∈ ro) (H : Cx B0 W S own ro) : wpC EM (.fn (.func 85) [] []) [.agg (e.cs v), I t, I now] S fun r S' => ∃ x c', r = .ptr x 0 ∧ pOp c' 1 (begE e l (badR l t now)) ∧ Cx B0 W S' (.obj x (.row c') :: own) ro := by
  refine wpC_fn (b := Tryz.a85) rfl rfl ?_
  unfold Tryz.a85 Tryz.a85x3 Tryz.a85x2 Tryz.a85x1 Tryz.a85x0 
  refine wp_box H rfl fun p S1 H => ?_
  refine wp_ldn H (by repeat (first | exact List.Mem.head _ | apply List.Mem.tail)) rfl ?_
  have fin : ∀ b : Bool, b = decide (badR l t now) → wp EM (.call (.fn (.func 129) [] []) [.agg (e.cs v), I 1, I 0, B b] fun v16 => .op (.nilchk v16) fun v17 => .op (.faddr 38 v17) fun v18 => Tryz.a85x1 [.agg (e.cs v), I t, I now] (.ptr p 0) v16 v18) S1 fun tg vs S' => tg = .ret ∧ ∃ x c', oneOf vs = .ptr x 0 ∧ pOp c' 1 (begE e l (badR l t now)) ∧ Cx B0 W S' (.obj x (.row c') :: own) ro := by
    rintro b rfl
    refine wp_call (wpC_mono (begun_ok (bad := badR l t now) (e := e) (l := l) (v := v) (List.mem_cons_of_mem _ hv) H) fun r S2 q => ?_)
    obtain ⟨x, rfl, H⟩ := q
    unfold Tryz.a85x1 Tryz.a85x0 
    try(refine zz ?_;(repeat constructor);intro _)
    refine wp_row (j := 38) H 0 rfl rfl ?_
    by_cases h0 : begE e l (badR l t now) = 0
    · obtain ⟨ho, hb⟩ := begE_ok h0
      unfold badR at hb
      obtain ⟨tn, rfl⟩ : ∃ k : Nat, t = (k : Int) := ⟨t.toNat, by omega⟩
      have htn : tn < l.length := by omega
      rw [h0] at H ⊢
      refine wp_eql_t rfl ?_
      refine wp_bind ?_
      try(refine zz ?_;(repeat constructor);intro _)
      refine wp_ld H (show Fct.pt p 0 (e.cs v) ∈ _ by repeat (first | exact List.Mem.head _ | apply List.Mem.tail)) rfl ?_
      refine wp_saddr (v := v) (i := tn) (L := tks l) H (List.mem_cons_of_mem _ hv) (tks_get htn) fun p1 o1 H => ?_
      refine wp_loada (n := 4) H (by repeat (first | exact List.Mem.head _ | apply List.Mem.tail)) (by simp [Tk.cs]) ?_
      refine wp_call (wpC_fn (b := Tryz.a131) rfl rfl ?_)
      rw [Tryz.u131]
      refine wp_box H rfl fun b1 S3 H => ?_
      refine wp_box H rfl fun b2 S3 H => ?_
      refine wp_box H rfl fun b3 S3 H => ?_
      refine wp_box H rfl fun b4 S3 H => ?_
      refine wp_ret ⟨rfl, ?_⟩
      show wp EM _ _ _
      refine wp_call (wpC_mono (follows_ok (by intro i h; cases h) rfl (script_release (by repeat (first | exact List.Mem.head _ | apply List.Mem.tail))) H) fun r S4 q => ?_)
      obtain ⟨c', s, n, h3, hs, hn, hl, H⟩ := q
      refine wp_ret ?_
      show wp EM _ _ _
      exact wp_ret ⟨rfl, x, c', rfl, pOp_go h3 hs hn hl, H.tl.tl.tl.tl.tl.tl⟩
    · refine wp_eql_f h0 ?_
      refine wp_bind ?_
      try(refine zz ?_;(repeat constructor);intro _)
      refine wp_ret ?_
      show wp EM _ _ _
      exact wp_ret ⟨rfl, x, _, rfl, pOp_bad h0, H.tl⟩
  unfold badR at fin
  have hlen : (tks l).length = l.length := tks_len l
  repeat' (first | (first|refine zA ?_|refine zB rfl ?_|refine zC ?_|refine zD ?_|refine zE rfl ?_|refine zF ?_|refine zG ?_|refine zH ?_|refine zI ?_|refine zJ ?_|refine zK ?_|refine zL rfl ?_|refine zN rfl ?_) | refine wp_ld H (show Fct.pt p 0 (e.cs v) ∈ _ by repeat (first | exact List.Mem.head _ | apply List.Mem.tail)) rfl ?_ | refine wp_len H (List.mem_cons_of_mem _ hv) ?_ | refine wp_lss (fun _ => ?_) (fun _ => ?_) | refine wp_gtr (fun _ => ?_) (fun _ => ?_) | refine wp_geq (fun _ => ?_) (fun _ => ?_))
  all_goals first
    | exact fin true (decide_eq_true (by omega)).symm
    | exact fin false (decide_eq_false (by omega)).symm
end
end Go.Abs.X
set_option linter.unusedSectionVars false
namespace Go.Abs.X
variable [Ek]
open Go.Proofs
set_option maxRecDepth 100000
set_option linter.unusedVariables false
open Tsk (Tk tks tchk tks_get tks_len)
/-! ### the document's operations, begun -/
section
variable {B0 S : AH} {W : List Nat} {own : List Own} {ro : List Fct} {Q : Post} {v : AV} {e : Ex} {l : List Tk}
end
end Go.Abs.X
set_option linter.unusedSectionVars false
namespace Go.Abs.X
variable [Ek]
open Go.Proofs
set_option maxRecDepth 100000
set_option linter.unusedVariables false
open Tsk (Tk tks tchk tks_get tks_len)
section
variable {B0 S : AH} {W : List Nat} {own : List Own} {ro : List Fct} {Q : Post} {v : AV} {e : Ex} {l : List Tk} {x : Nat} {c : List AV} {kind err : Int}
theorem pKind_ok (n : Nat) (hm : own[n]? = some (.obj x (.row c))) (hp : pOp c kind err) (H : Cx B0 W S own ro) : wpC EM (.fn (.func 128) [] []) [.ptr x 0] S fun r S' => r = I kind ∧ S' = S := by
  refine wpC_fn (b := Tryz.a128) rfl rfl ?_
  rw [Tryz.u128]
  refine wp_op (e_ptrNil (by kernel_rfl)) ?_
  try(refine zz ?_;(repeat constructor);intro _)
  refine wp_row (j := 29) H n hm hp.2.1 ?_
  exact wp_ret ⟨rfl, rfl, rfl⟩
end
end Go.Abs.X
set_option linter.unusedSectionVars false
namespace Go.Abs.X
variable [Ek]
open Go.Proofs
set_option maxRecDepth 100000
set_option linter.unusedVariables false
open Tsk (Tk tks tchk timed since many num TOk count allN tone tfirst)
/-! ### the times of small setups -/
def smT (p e : Nat → Int) (t : Nat) : Tk := if t % 2 = 0 then ⟨1, p t, 3 + e t, t⟩ else ⟨2, p t, e t, 0⟩
def smL (p e : Nat → Int) (n : Nat) : List Tk := (List.range n).map (smT p e)
def smOk (p e : Nat → Int) : Prop := ∀ t, (0 ≤ p t ∧ p t ≤ 4) ∧ (0 ≤ e t ∧ e t ≤ 3)
theorem smL_len (p e : Nat → Int) (n : Nat) : (smL p e n).length = n := by simp [smL]
theorem smL_get {p e : Nat → Int} {n i : Nat} (h : i < n) : (smL p e n)[i]? = some (smT p e i) := by simp [smL, h]
theorem smT_one {p e : Nat → Int} (h : smOk p e) {t : Nat} (ht : t < 6) : tone (smT p e t) = 0 := by
  have := h t
  unfold smT tone
  by_cases e2 : t % 2 = 0
  · rw [if_pos e2]
    dsimp only
    rw [if_neg (by omega), if_neg (by omega)]
  · rw [if_neg e2]
    dsimp only
    rw [if_neg (by omega), if_neg (by omega)]
theorem tfirst_all : ∀ {l : List Tk}, (∀ x ∈ l, tone x = 0) → tfirst l = 0
  | [], _ => rfl
  | x :: l, h => by
    unfold tfirst
    rw [if_pos (h x (by simp))]
    exact tfirst_all fun y hy => h y (List.mem_cons_of_mem _ hy)
theorem smL_chk {p e : Nat → Int} (h : smOk p e) {n : Nat} (hn : n ≤ 6) : tchk (smL p e n) = 0 := by
  unfold tchk
  rw [smL_len, if_neg (by omega)]
  refine tfirst_all fun x hx => ?_
  unfold smL at hx
  obtain ⟨t, ht, rfl⟩ := List.mem_map.1 hx
  have := List.mem_range.1 ht
  exact smT_one h (by omega)
theorem since_le {f e b : Int} (h : TOk f e) (hb : 0 ≤ b ∧ b ≤ 1099511627776) : 0 ≤ since f e b ∧ since f e b ≤ b := by
  have h1 := Tsk.since_bd (f := f) (e := e) (now := b) h
  refine ⟨h1.1, ?_⟩
  unfold since
  by_cases hf : b ≤ f
  · rw [if_pos hf]; omega
  · rw [if_neg hf, if_neg (by omega)]
    have h2 := (Tsk.num_bd (f := f) (e := e) (now := b) h.e0).2 (by omega)
    have := h.f0
    omega
theorem count_le {x : Tk} {b : Int} (hb : 0 ≤ b ∧ b ≤ 1099511627776) : 0 ≤ count x 0 b ∧ count x 0 b ≤ b := by
  unfold count
  by_cases h : timed x = true ∧ 0 < b
  · rw [if_pos h]
    have ht := Tsk.timed_ok h.1
    have h1 := since_le ht hb
    have h2 : since x.first x.every 0 = 0 := by unfold since; rw [if_pos ht.f0]
    omega
  · rw [if_neg h]; omega
theorem count_odd {p e : Nat → Int} {t : Nat} (h : t % 2 = 1) (a b : Int) : count (smT p e t) a b = 0 := by
  unfold count
  rw [if_neg]
  intro hh
  unfold smT timed at hh
  rw [if_neg (by omega)] at hh
  simp at hh
theorem all_le {p e : Nat → Int} {n : Nat} {b : Int} (hb : 0 ≤ b ∧ b ≤ 1200) : ∀ i, i ≤ n → 0 ≤ allN (smL p e n) 0 b i ∧ allN (smL p e n) 0 b i ≤ 1200 * (((i + 1) / 2 : Nat) : Int)
  | 0, _ => by simp [allN]
  | i + 1, hi => by
    have ih := all_le (p := p) (e := e) (n := n) hb i (by omega)
    have hil : i < (smL p e n).length := by rw [smL_len]; omega
    have hg : (smL p e n)[i] = smT p e i := (List.getElem?_eq_some_iff.1 (smL_get (p := p) (e := e) (show i < n by omega))).2
    rw [Tsk.allN_succ hil, hg]
    by_cases h : i % 2 = 1
    · rw [count_odd h]; omega
    · have := count_le (x := smT p e i) (b := b) (by omega)
      omega
theorem count_add (x : Tk) {a b c : Int} (h1 : a ≤ b) (h2 : b ≤ c) : count x a b + count x b c = count x a c := by
  unfold count
  by_cases ht : timed x = true
  · by_cases hab : a < b
    · by_cases hbc : b < c
      · rw [if_pos ⟨ht, hab⟩, if_pos ⟨ht, hbc⟩, if_pos ⟨ht, by omega⟩]; omega
      · have : b = c := by omega
        subst this
        rw [if_pos ⟨ht, hab⟩, if_neg (by omega)]; omega
    · have : a = b := by omega
      subst this
      rw [if_neg (c := timed x = true ∧ a < a) (by omega)]; omega
  · rw [if_neg (fun h => ht h.1), if_neg (fun h => ht h.1), if_neg (fun h => ht h.1)]; rfl
theorem allN_add (l : List Tk) {a b c : Int} (h1 : a ≤ b) (h2 : b ≤ c) : ∀ i, i ≤ l.length → allN l a b i + allN l b c i = allN l a c i
  | 0, _ => by simp [allN]
  | i + 1, hi => by
    have ih := allN_add l h1 h2 i (by omega)
    rw [Tsk.allN_succ (by omega), Tsk.allN_succ (by omega), Tsk.allN_succ (by omega)]
    have := count_add l[i] h1 h2
    omega
structure Tks (l : List Tk) (now : Nat) (k : Nat) (x : Wl) (D : List Fi) : Prop where
  clk : x.now = now
  ok : x.Ok
  tg : TG l x.L
  left : 0 < k → ∀ f ∈ x.L, now < f.tm
  zero : k = 0 → D = [] ∧ now = 0
  inn : ∀ f ∈ D, (∃ t, l[f.id]? = some t ∧ isT t f.tm) ∧ f.tm ≤ now
  ord : Ord D
  len : 0 < k → (D.length : Int) = allN l 0 ((now : Int) + 1) l.length
  pd : ∀ b, (if k = 0 then (0 : Int) else (now : Int) + 1) ≤ b → allN l 0 b l.length = (D.length : Int) + pend l b x.L
theorem tks_zero {l : List Tk} (hl : l.length ≤ 32) : Tks l 0 0 (loadN ⟨0, []⟩ l l.length) [] := by
  obtain ⟨k1, k2, k3, k4⟩ := load_spec (now := 0) (by omega) (l := l) hl l.length (Nat.le_refl _)
  refine ⟨loadN_now _ _ _, k1, k2, fun h => absurd h (by omega), fun _ => ⟨rfl, rfl⟩, by simp, List.Pairwise.nil, fun h => absurd h (by omega), fun b hb => ?_⟩
  rw [k4]
  show allN l 0 b l.length = 0 + allN l _ b l.length
  simp
theorem tks_step {p e : Nat → Int} {n now k m : Nat} {x : Wl} {D : List Fi} (hn : n ≤ 6) (h : Tks (smL p e n) now k x D) (hm : now + m ≤ 1199) :
    ∃ M A, runM (smL p e n) ((now + m : Nat) : Int) 4097 x.L = some (M, A) ∧ mayE x ((now + m : Nat) : Int) = 0 ∧ Tks (smL p e n) (now + m) (k + 1) ⟨now + m, M⟩ (D ++ A) ∧
      (A.length : Int) = allN (smL p e n) (if k = 0 then 0 else (now : Int) + 1) (((now + m : Nat) : Int) + 1) n ∧ D.length + A.length ≤ 4000 := by
  have hall := all_le (p := p) (e := e) (n := n) (b := ((now + m : Nat) : Int) + 1) (by omega) n (Nat.le_refl _)
  have hpd := h.pd (((now + m : Nat) : Int) + 1) (by split <;> omega)
  rw [smL_len] at hpd
  have h3 : (n + 1) / 2 ≤ 3 := by omega
  have hp0 := pend_nn (smL p e n) (((now + m : Nat) : Int) + 1) x.L
  obtain ⟨M, A, r1, r2, r3, r4, r5, r6, r7, r8, r9⟩ := runM_spec (l := smL p e n) (to := ((now + m : Nat) : Int)) (by omega) 4097 x h.ok h.tg (by omega)
  refine ⟨M, A, r1, ?_, ?_, ?_, by omega⟩
  · unfold mayE
    rw [if_pos (by omega), if_neg (by rw [h.clk]; omega)]
  · refine ⟨rfl, ?_, r3, fun _ f hf => by have := r4 f hf; omega, fun h0 => absurd h0 (by omega), ?_, ?_, ?_, ?_⟩
    · exact ⟨by show now + m ≤ _; omega, r2.ord, r2.nd, fun f hf => by have := r4 f hf; show now + m ≤ f.tm; omega, r2.le, r2.id⟩
    · intro f hf
      rcases List.mem_append.1 hf with hf | hf
      · obtain ⟨h1, h2⟩ := h.inn f hf
        exact ⟨h1, by omega⟩
      · obtain ⟨h1, h2, h4⟩ := r6 f hf
        exact ⟨h1, by omega⟩
    · unfold Ord
      rw [List.pairwise_append]
      refine ⟨h.ord, r7, fun a ha b hb => ?_⟩
      by_cases hk : k = 0
      · rw [(h.zero hk).1] at ha; cases ha
      · refine r8 a (fun g hg => ?_) b hb
        have h1 := (h.inn a ha).2
        have h2 := h.left (by omega) g hg
        unfold Fi.lt; omega
    · intro _
      rw [List.length_append, smL_len]
      omega
    · intro b hb
      rw [if_neg (by omega)] at hb
      have h1 := r9 b (by omega)
      have h2 := h.pd b (by split <;> omega)
      rw [List.length_append]
      show _ = _ + pend _ b M
      omega
  · by_cases hk : k = 0
    · rw [if_pos hk]
      have := (h.zero hk).1
      subst this
      rw [List.length_nil] at hpd
      omega
    · rw [if_neg hk]
      have h1 := allN_add (smL p e n) (a := 0) (b := (now : Int) + 1) (c := ((now + m : Nat) : Int) + 1) (by omega) (by omega) n (by rw [smL_len]; omega)
      have h2 := h.len (by omega)
      rw [smL_len] at h2
      omega
end Go.Abs.X
set_option linter.unusedSectionVars false
namespace Go.Abs.X
variable [Ek]
open Go.Proofs
set_option maxRecDepth 100000
set_option linter.unusedVariables false
open Tsk (Tk tks tchk)
/-! ### a small setup -/
theorem pick_bd {a n : Int} (h : 0 < n) : 0 ≤ pick a n ∧ pick a n < n := by
  unfold pick
  rw [if_neg (by omega)]
  exact ⟨Int.emod_nonneg _ (by omega), Int.emod_lt_of_pos _ h⟩
def nth12 (L : List Int) (i : Nat) : Int := (L[i]?).getD 0
def smP (L : List Int) (i : Nat) : Int := pick (nth12 L (6 + i)) 5
noncomputable def smE (L : List Int) (i : Nat) : Int := pick (wrapF .i64 ((nth12 L (6 + i)).tdiv 5)) 4
def base0 (p e : Nat → Int) (n : Nat) : List Tk := (List.range n).map fun t => ⟨2, p t, e t, 0⟩
theorem base0_len (p e : Nat → Int) (n : Nat) : (base0 p e n).length = n := by simp [base0]
theorem base0_succ (p e : Nat → Int) (n : Nat) : base0 p e (n + 1) = base0 p e n ++ [⟨2, p n, e n, 0⟩] := by simp [base0, List.range_succ]
theorem sm_ok (L : List Int) : smOk (smP L) (smE L) := fun t => by
  have h1 := pick_bd (a := nth12 L (6 + t)) (n := 5) (by omega)
  have h2 := pick_bd (a := wrapF .i64 ((nth12 L (6 + t)).tdiv 5)) (n := 4) (by omega)
  unfold smP smE; omega
structure Sm (s : Su) : Prop where
  c : 1 ≤ s.cores ∧ s.cores ≤ 4
  j : 1 ≤ s.jobs ∧ s.jobs ≤ 6
  n : s.jobs + 1 ≤ s.nodes ∧ s.nodes ≤ s.jobs + 3
  h : 1 ≤ s.height ∧ s.height ≤ 3
  r : 1 ≤ s.room ∧ s.room ≤ 4
  l : s.limit = 50
section
variable {B0 S : AH} {W : List Nat} {own R : List Own} {ro : List Fct} {Q : Post} {k : AV → AC} {kc : AC}
theorem at12 {L : List Int} (h : L.length = 12) {i : Nat} (hi : i < 12) : (ints L)[i]? = some [I (nth12 L i)] := by
  refine ints_at ?_
  unfold nth12
  rw [List.getElem?_eq_getElem (by omega)]; rfl
theorem wp_Pk (H : Cx B0 W S own ro) {a n : Int} (hn : n ≤ 9223372036854775807) (h : ∀ S, Cx B0 W S own ro → wp EM (k (I (pick a n))) S Q) : wp EM (.call (.fn (.func 6) [] []) [I a, I n] k) S Q :=
  wp_call (wpC_mono (pick_ok rfl rfl hn) fun r S1 q => by obtain ⟨rfl, rfl⟩ := q; exact h _ H)
theorem small_ok {v : AV} {l : List Int} (hv : Fct.sl v 1 (ints l) ∈ ro) (H : Cx B0 W S own ro) : wpC EM (.fn (.func 23) [] []) [v, I 50] S fun r S' => ∃ s p e n u, r = .agg (s.cs u) ∧ (1 ≤ n ∧ n ≤ 6) ∧ smOk p e ∧ Sm s ∧ Cx B0 W S' (.sl u 4 (tks (base0 p e n)) :: own) ro := by
  refine wpC_fn (b := Tryz.a23) rfl rfl ?_
  unfold Tryz.a23 Tryz.a23x17 Tryz.a23x16 Tryz.a23x15 Tryz.a23x14 Tryz.a23x13 Tryz.a23x12 Tryz.a23x11 Tryz.a23x10 Tryz.a23x9 Tryz.a23x8 Tryz.a23x7 Tryz.a23x6 Tryz.a23x5 Tryz.a23x4 Tryz.a23x3 Tryz.a23x2 Tryz.a23x1 Tryz.a23x0 
  refine wp_fin ?_
  refine wp_alloc H fun z S1 H => ?_
  refine wp_mkslice1 (n := 12) H (by omega) (by omega) fun t S2 H => ?_
  have H : Cx B0 W S2 (.sl t 1 (ints (List.replicate 12 0)) :: .obj z (.row [I 0, I 0, I 0, I 0, I 0, I 0, Ns]) :: own) ro := H
  refine wp_bind (wp_loop (wpL_for (min 12 l.length) (fun i vs S' => vs = [I (i : Int)] ∧ ∃ L : List Int, L.length = 12 ∧ Cx B0 W S' (.sl t 1 (ints L) :: .obj z (.row [I 0, I 0, I 0, I 0, I 0, I 0, Ns]) :: own) ro) ?_ ?_ ⟨rfl, _, rfl, H⟩))
  · clear H
    rintro i vs S3 hi ⟨rfl, L, hL, H⟩
    refine wp_leno H 0 rfl ?_
    rw [ints_len, hL]
    refine wp_lss_t (by omega) ?_
    try(refine zz ?_;(repeat constructor);intro _)
    refine wp_len H hv ?_
    rw [ints_len]
    refine wp_gop_t (wp_lss_t (by omega) ?_)
    try(refine zz ?_;(repeat constructor);intro _)
    refine wp_bind ?_
    have hli : l[i]? = some l[i] := List.getElem?_eq_getElem (by omega)
    generalize l[i] = a at hli
    refine wp_saddr H hv (ints_at hli) fun id off H1 => ?_
    refine wp_load0 H1 (List.Mem.head _) rfl ?_
    refine wp_storeE (y := I a) (i := i) H 0 rfl (by rw [ints_len]; omega) rfl rfl fun S4 H => ?_
    refine wp_ret ?_
    show wp EM _ _ _
    refine wp_add64 (by omega) (by omega) ?_
    refine wp_ret (.inl ⟨rfl, rfl, L.set i a, by rw [List.length_set]; exact hL, ?_⟩)
    have e : (ints L).set i [I a] = ints (L.set i a) := by unfold ints; rw [List.map_set]
    rw [← e]; exact H
  rintro vs S3 ⟨rfl, L, hL, H⟩
  have exit : ∀ {S3 : AH}, Cx B0 W S3 (.sl t 1 (ints L) :: .obj z (.row [I 0, I 0, I 0, I 0, I 0, I 0, Ns]) :: own) ro → wp EM (Tryz.a23x17 [v, I 50] (.ptr z 0) t) S3 fun tg vs S' => (tg = .normal ∨ tg = .ret) ∧ wp EM (.op (.load 7 true (nth vs 0)) fun v2 => .ret .ret [v2]) S' fun tg vs S' => tg = .ret ∧ ∃ s p e n u, oneOf vs = .agg (s.cs u) ∧ (1 ≤ n ∧ n ≤ 6) ∧ smOk p e ∧ Sm s ∧ Cx B0 W S' (.sl u 4 (tks (base0 p e n)) :: own) ro := by
    clear H
    intro S3 H
    have H := H.toRo (i := 0) rfl
    have H : Cx B0 W S3 (.obj z (.row [I 0, I 0, I 0, I 0, I 0, I 0, Ns]) :: own) (.sl t 1 (ints L) :: ro) := H
    unfold Tryz.a23x17 Tryz.a23x16 Tryz.a23x15 Tryz.a23x14 Tryz.a23x13 Tryz.a23x12 
    refine wp_saddr H (List.Mem.head _) (at12 hL (i := 0) (by omega)) fun i0 o0 H => ?_
    refine wp_load0 H (List.Mem.head _) rfl ?_
    refine wp_saddr H (by repeat (first | exact List.Mem.head _ | apply List.Mem.tail)) (at12 hL (i := 1) (by omega)) fun i1 o1 H => ?_
    refine wp_load0 H (List.Mem.head _) rfl ?_
    refine wp_saddr H (by repeat (first | exact List.Mem.head _ | apply List.Mem.tail)) (at12 hL (i := 2) (by omega)) fun i2 o2 H => ?_
    refine wp_load0 H (List.Mem.head _) rfl ?_
    refine wp_saddr H (by repeat (first | exact List.Mem.head _ | apply List.Mem.tail)) (at12 hL (i := 3) (by omega)) fun i3 o3 H => ?_
    refine wp_load0 H (List.Mem.head _) rfl ?_
    refine wp_alloc H fun w S4 H => ?_
    have m1 : Fct.pt i1 o1 [I (nth12 L 1)] ∈ (.pt i3 o3 [I (nth12 L 3)] :: .pt i2 o2 [I (nth12 L 2)] :: .pt i1 o1 [I (nth12 L 1)] :: .pt i0 o0 [I (nth12 L 0)] :: .sl t 1 (ints L) :: ro) := by repeat (first | exact List.Mem.head _ | apply List.Mem.tail)
    have m2 : Fct.pt i2 o2 [I (nth12 L 2)] ∈ (.pt i3 o3 [I (nth12 L 3)] :: .pt i2 o2 [I (nth12 L 2)] :: .pt i1 o1 [I (nth12 L 1)] :: .pt i0 o0 [I (nth12 L 0)] :: .sl t 1 (ints L) :: ro) := by repeat (first | exact List.Mem.head _ | apply List.Mem.tail)
    have m3 : Fct.pt i3 o3 [I (nth12 L 3)] ∈ (.pt i3 o3 [I (nth12 L 3)] :: .pt i2 o2 [I (nth12 L 2)] :: .pt i1 o1 [I (nth12 L 1)] :: .pt i0 o0 [I (nth12 L 0)] :: .sl t 1 (ints L) :: ro) := by repeat (first | exact List.Mem.head _ | apply List.Mem.tail)
    have mt : Fct.sl t 1 (ints L) ∈ (.pt i3 o3 [I (nth12 L 3)] :: .pt i2 o2 [I (nth12 L 2)] :: .pt i1 o1 [I (nth12 L 1)] :: .pt i0 o0 [I (nth12 L 0)] :: .sl t 1 (ints L) :: ro) := by repeat (first | exact List.Mem.head _ | apply List.Mem.tail)
    have b0 := pick_bd (a := nth12 L 0) (n := 4) (by omega)
    have b1 := pick_bd (a := nth12 L 1) (n := 6) (by omega)
    have b2 := pick_bd (a := nth12 L 2) (n := 3) (by omega)
    have b3 := pick_bd (a := nth12 L 3) (n := 4) (by omega)
    have b4 := pick_bd (a := nth12 L 4) (n := 3) (by omega)
    have b5 := pick_bd (a := nth12 L 5) (n := 6) (by omega)
    refine wp_Pk H (by omega) fun S4 H => ?_
    refine wp_chk1 (j := 0) H m1 rfl beq_num ?_
    refine wp_chk1 (j := 0) H m2 rfl beq_num ?_
    refine wp_chk1 (j := 0) H m3 rfl beq_num ?_
    refine wp_add64 (by omega) (by omega) ?_
    refine wp_Pk H (by omega) fun S4 H => ?_
    refine wp_chk1 (j := 0) H m2 rfl beq_num ?_
    refine wp_chk1 (j := 0) H m3 rfl beq_num ?_
    refine wp_add64 (by omega) (by omega) ?_
    refine wp_Pk H (by omega) fun S4 H => ?_
    refine wp_chk1 (j := 0) H m3 rfl beq_num ?_
    refine wp_add64 (by omega) (by omega) ?_
    refine wp_Pk H (by omega) fun S4 H => ?_
    refine wp_add64 (by omega) (by omega) ?_
    refine wp_op (v := .agg [I (1 + pick (nth12 L 0) 4), I (1 + pick (nth12 L 1) 6), I 0, I (1 + pick (nth12 L 2) 3), I (1 + pick (nth12 L 3) 4), I 50, Ns]) rfl ?_
    refine wp_store (n := 7) H 0 (c := [I 0, I 0, I 0, I 0, I 0, I 0, Ns]) rfl rfl rfl (by simp) fun S5 H => ?_
    have H : Cx B0 W S5 (.obj w (.row [I (1 + pick (nth12 L 0) 4), I (1 + pick (nth12 L 1) 6), I 0, I (1 + pick (nth12 L 2) 3), I (1 + pick (nth12 L 3) 4), I 50, Ns]) :: .obj z (.row [I 0, I 0, I 0, I 0, I 0, I 0, Ns]) :: own) _ := H
    try(refine zz ?_;(repeat constructor);intro _)
    refine wp_row (j := 1) H 0 rfl rfl ?_
    refine wp_add64 (by omega) (by omega) ?_
    refine wp_saddr H mt (at12 hL (i := 4) (by omega)) fun i4 o4 H1 => ?_
    refine wp_load0 H1 (List.Mem.head _) rfl ?_
    refine wp_Pk H (by omega) fun S6 H => ?_
    refine wp_cko (o := 1) H 0 rfl rfl beq_num ?_
    refine wp_add64 (by omega) (by omega) ?_
    try(refine zz ?_;(repeat constructor);intro _)
    refine wp_set1 (j := 2) H 0 rfl (by simp) ⟨rfl, rfl⟩ fun S7 H => ?_
    generalize hs : (⟨1 + pick (nth12 L 0) 4, 1 + pick (nth12 L 1) 6, 1 + pick (nth12 L 1) 6 + 1 + pick (nth12 L 4) 3, 1 + pick (nth12 L 2) 3, 1 + pick (nth12 L 3) 4, 50⟩ : Su) = s
    have hsm : Sm s := by
      subst hs
      exact ⟨by dsimp only; omega, by dsimp only; omega, by dsimp only; omega, by dsimp only; omega, by dsimp only; omega, rfl⟩
    have H : Cx B0 W S7 (.obj w (.row (s.cs Ns)) :: .obj z (.row [I 0, I 0, I 0, I 0, I 0, I 0, Ns]) :: own) (.pt i3 o3 [I (nth12 L 3)] :: .pt i2 o2 [I (nth12 L 2)] :: .pt i1 o1 [I (nth12 L 1)] :: .pt i0 o0 [I (nth12 L 0)] :: .sl t 1 (ints L) :: ro) := by
      subst hs; exact H
    have back : ∀ {S own}, Cx B0 W S own (.pt i3 o3 [I (nth12 L 3)] :: .pt i2 o2 [I (nth12 L 2)] :: .pt i1 o1 [I (nth12 L 1)] :: .pt i0 o0 [I (nth12 L 0)] :: .sl t 1 (ints L) :: ro) → Cx B0 W S own ro := fun H => H.tl.tl.tl.tl.tl
    generalize (.pt i3 o3 [I (nth12 L 3)] :: .pt i2 o2 [I (nth12 L 2)] :: .pt i1 o1 [I (nth12 L 1)] :: .pt i0 o0 [I (nth12 L 0)] :: .sl t 1 (ints L) :: ro) = ro1 at H mt back
    clear m1 m2 m3 hs
    unfold Tryz.a23x10 Tryz.a23x9 Tryz.a23x8 Tryz.a23x7 Tryz.a23x6 Tryz.a23x5 Tryz.a23x4 
    obtain ⟨kk, hkk⟩ : ∃ kk : Nat, pick (nth12 L 5) 6 = (kk : Int) := ⟨(pick (nth12 L 5) 6).toNat, by omega⟩
    refine wp_bind (wp_loop (wpL_for (kk + 1) (fun i vs S' => ∃ u, vs = [I (i : Int)] ∧ Cx B0 W S' (.sl u 4 (tks (base0 (smP L) (smE L) i)) :: .obj w (.row (s.cs u)) :: .obj z (.row [I 0, I 0, I 0, I 0, I 0, I 0, Ns]) :: own) ro1) ?_ ?_ ⟨Ns, rfl, H.addNilS 4⟩))
    · clear H
      rintro i vs S8 hi ⟨u, rfl, H⟩
      refine wp_saddr H mt (at12 hL (i := 5) (by omega)) fun i5 o5 H1 => ?_
      refine wp_load0 H1 (List.Mem.head _) rfl ?_
      refine wp_Pk H (by omega) fun S9 H => ?_
      rw [hkk]
      refine wp_leq_t (by omega) ?_
      try(refine zz ?_;(repeat constructor);intro _)
      refine wp_bind ?_
      try(refine zz ?_;(repeat constructor);intro _)
      refine wp_row (j := 6) H 1 rfl rfl ?_
      refine wp_add64 (by omega) (by omega) ?_
      have e6 : (6 : Int) + (i : Int) = ((6 + i : Nat) : Int) := by omega
      rw [e6]
      refine wp_saddr H mt (at12 hL (i := 6 + i) (by omega)) fun i6 o6 H => ?_
      refine wp_load0 H (List.Mem.head _) rfl ?_
      refine wp_add64 (by omega) (by omega) ?_
      rw [e6]
      refine wp_saddr H (List.mem_cons_of_mem _ mt) (at12 hL (i := 6 + i) (by omega)) fun i7 o7 H => ?_
      refine wp_load0 H (List.Mem.head _) rfl ?_
      refine wp_quo (c := wrapF .i64 ((nth12 L (6 + i)).tdiv 5)) (by omega) rfl ?_
      have hb : AV.beq u u = true := Ex.beq_sl (ownSl_ok (H.oh _ (List.Mem.head _)))
      refine wp_Pk H (by omega) fun S9 H => ?_
      refine wp_cko (o := 6) H 1 rfl rfl hb ?_
      refine wp_chk1 (j := 0) H (List.Mem.head _) rfl beq_num ?_
      refine wp_Pk H (by omega) fun S9 H => ?_
      refine wp_cko (o := 6) H 1 rfl rfl hb ?_
      refine wp_op (v := .agg [I 2, I (smP L i), I (smE L i), I 0]) rfl ?_
      refine wp_litsG H [[I 2, I (smP L i), I (smE L i), I 0]] rfl rfl rfl (by simp) fun x S10 H => ?_
      have H := H.toRo (i := 0) rfl
      refine wp_appendR (N := [[I 2, I (smP L i), I (smE L i), I 0]]) H 0 rfl (List.Mem.head _) (by simp) ?_ ?_ fun u2 S11 H => ?_
      · rw [Tsk.tks_len, base0_len]; unfold maxBytes; simp; omega
      · rw [Tsk.tks_len, base0_len]; unfold maxLenN; simp; omega
      have hu : Fv u2 := slOk_one (ownSl_ok (H.oh _ (List.Mem.head _)))
      try(refine zz ?_;(repeat constructor);intro _)
      refine wp_set1 (j := 6) H 1 rfl (by simp [Su.cs]) hu fun S12 H => ?_
      refine wp_ret ?_
      show wp EM _ _ _
      refine wp_add64 (by omega) (by omega) ?_
      refine wp_ret (.inl ⟨rfl, u2, rfl, ?_⟩)
      have e : tks (base0 (smP L) (smE L) (i + 1)) = tks (base0 (smP L) (smE L) i) ++ [[I 2, I (smP L i), I (smE L i), I 0]] := by
        rw [base0_succ]; unfold tks; rw [List.map_append]; rfl
      rw [e]
      exact H.tl.tl.tl
    · clear H
      rintro vs S8 ⟨u, rfl, H⟩
      refine wp_saddr H mt (at12 hL (i := 5) (by omega)) fun i5 o5 H1 => ?_
      refine wp_load0 H1 (List.Mem.head _) rfl ?_
      refine wp_Pk H (by omega) fun S9 H => ?_
      rw [hkk]
      refine wp_leq_f (by omega) ?_
      try(refine zz ?_;(repeat constructor);intro _)
      refine wp_ret ⟨by simp, ?_⟩
      show wp EM _ _ _
      unfold Tryz.a23x11 
      refine wp_loadoa (n := 7) H 1 rfl (by simp [Su.cs]) ?_
      have hu : Fv u := slOk_one (ownSl_ok (H.oh _ (List.Mem.head _)))
      refine wp_store (n := 7) (v := .agg (s.cs u)) H 2 (c := [I 0, I 0, I 0, I 0, I 0, I 0, Ns]) rfl rfl rfl (by simp) fun S10 H => ?_
      have H : Cx B0 W S10 (.sl u 4 (tks (base0 (smP L) (smE L) (kk + 1))) :: .obj w (.row (s.cs u)) :: .obj z (.row (s.cs u)) :: own) ro1 := H
      refine wp_ret ⟨.inr rfl, ?_⟩
      refine wp_loadoa (n := 7) H 2 rfl (by simp [Su.cs]) ?_
      exact wp_ret ⟨rfl, s, smP L, smE L, kk + 1, u, rfl, by omega, sm_ok L, hsm, back ((H.dropAt 1).dropAt 1)⟩
  refine wp_leno H 0 rfl ?_
  rw [ints_len, hL]
  by_cases h12 : 12 ≤ l.length
  · refine wp_lss_f (by omega) ?_
    try(refine zz ?_;(repeat constructor);intro _)
    refine wp_ret ⟨by simp, ?_⟩
    exact exit H
  · refine wp_lss_t (by omega) ?_
    try(refine zz ?_;(repeat constructor);intro _)
    refine wp_len H hv ?_
    rw [ints_len]
    refine wp_gop_t (wp_lss_f (by omega) ?_)
    try(refine zz ?_;(repeat constructor);intro _)
    refine wp_ret ⟨by simp, ?_⟩
    exact exit H
end
end Go.Abs.X
set_option linter.unusedSectionVars false
namespace Go.Abs.X
variable [Ek]
open Go.Proofs
set_option maxRecDepth 100000
set_option linter.unusedVariables false
open Tsk (Tk tks tchk)
/-! ### a world is made -/
def midT (p e : Nat → Int) (i t : Nat) : Tk := if t % 2 = 0 ∧ t < 2 * i then smT p e t else ⟨2, p t, e t, 0⟩
def midL (p e : Nat → Int) (n i : Nat) : List Tk := (List.range n).map (midT p e i)
theorem midL_len (p e : Nat → Int) (n i : Nat) : (midL p e n i).length = n := by simp [midL]
theorem midL_get {p e : Nat → Int} {n i t : Nat} (h : t < n) : (tks (midL p e n i))[t]? = some (midT p e i t).cs := by
  unfold tks midL
  rw [List.getElem?_map, List.getElem?_map, List.getElem?_range h]; rfl
theorem midL_zero (p e : Nat → Int) (n : Nat) : midL p e n 0 = base0 p e n := by
  unfold midL base0
  refine List.map_congr_left fun t _ => ?_
  unfold midT
  rw [if_neg (by omega)]
theorem midL_end (p e : Nat → Int) (n : Nat) : midL p e n ((n + 1) / 2) = smL p e n := by
  unfold midL smL
  refine List.map_congr_left fun t ht => ?_
  have := List.mem_range.1 ht
  unfold midT
  by_cases h : t % 2 = 0
  · rw [if_pos (by omega)]
  · rw [if_neg (by omega)]; unfold smT; rw [if_neg h]
theorem midL_set {p e : Nat → Int} {n i : Nat} (h : 2 * i < n) : (tks (midL p e n i)).set (2 * i) (smT p e (2 * i)).cs = tks (midL p e n (i + 1)) := by
  refine List.ext_getElem? fun t => ?_
  rw [List.getElem?_set, Tsk.tks_len, midL_len]
  by_cases ht : t < n
  · rw [midL_get (i := i) ht, midL_get (i := i + 1) ht]
    by_cases e2 : 2 * i = t
    · rw [if_pos e2, if_pos h]
      unfold midT
      rw [if_pos (by omega), e2]
    · rw [if_neg e2]
      congr 2
      unfold midT
      by_cases hc : t % 2 = 0 ∧ t < 2 * i
      · rw [if_pos hc, if_pos (by omega)]
      · rw [if_neg hc, if_neg (by omega)]
  · have e3 : (tks (midL p e n (i + 1)))[t]? = none := List.getElem?_eq_none (by rw [Tsk.tks_len, midL_len]; omega)
    rw [e3]
    by_cases e2 : 2 * i = t
    · omega
    · rw [if_neg e2]
      exact List.getElem?_eq_none (by rw [Tsk.tks_len, midL_len]; omega)
def pwr (e : Ex) (u : AV) (m d f w mp : Nat) (du hi : AV) (calls : Int) (nt : AV) : List AV := e.cs u ++ [.ptr m 0, .ptr d 0, .ptr f 0, .ptr w 0, .map mp, du, hi, I calls, nt]
def nilW (e : Ex) (u : AV) (d mp : Nat) : List AV := e.cs u ++ [Np, .ptr d 0, Np, Np, .map mp, Ns, Ns, I 0, Nf]
theorem beq_ptr {a b : Nat} : AV.beq (.ptr a b) (.ptr a b) = true := by
  show (Nat.beq a a && Nat.beq b b) = true
  simp only [Nat.beq_refl, Bool.and_self]
section
variable {B0 S : AH} {W : List Nat} {own R : List Own} {ro : List Fct} {Q : Post} {k : AV → AC} {kc : AC}
theorem draw0_ok (H : Cx B0 W S own ro) : wpC EM (.fn (.func 42) [] []) [Ns] S fun r S' => ∃ d, r = .tup [.ptr d 0, I 0] ∧ Cx B0 W S' own ro := by
  refine wpC_fn (b := Tryz.a42) rfl rfl ?_
  rw [Tryz.u42]
  refine wp_op (S1 := S) (v := I 0) rfl ?_
  refine wp_gtr_f (by omega) ?_
  try(refine zz ?_;(repeat constructor);intro _)
  refine wp_call (wpC_mono (Q := fun r S' => r = Ns ∧ S' = S) ?_ fun r S1 q => ?_)
  · refine wpC_fn (b := Tryz.a75) rfl rfl ?_
    rw [Tryz.u75]
    refine wp_op (S1 := S) (v := B true) (by kernel_rfl) ?_
    try(refine zz ?_;(repeat constructor);intro _)
    exact wp_ret ⟨rfl, rfl, rfl⟩
  · obtain ⟨rfl, rfl⟩ := q
    refine wp_op (v := .agg [Ns, I 0]) rfl ?_
    refine wp_boxOwn H rfl fun a S2 H => ?_
    refine wp_op (v := .agg [.ptr a 0]) rfl ?_
    refine wp_boxOwn H rfl fun b S3 H => ?_
    exact wp_ret ⟨rfl, b, rfl, (H.dropAt 0).dropAt 0⟩
theorem frame_ok {c : Nat} (hc : 1 ≤ c ∧ c ≤ 64) (H : Cx B0 W S own ro) : wpC EM (.fn (.func 45) [] []) [I (c : Int)] S fun r S' => ∃ f v, r = .tup [.ptr f 0, I 0] ∧ Cx B0 W S' (.obj f (.row [v, Ns, I 0]) :: .sl v 1 (List.replicate c [Np]) :: own) ro := by
  refine wpC_fn (b := Tryz.a45) rfl rfl ?_
  rw [Tryz.u45]
  refine wp_lss_f (by omega) ?_
  try(refine zz ?_;(repeat constructor);intro _)
  refine wp_gtr_f (by omega) ?_
  try(refine zz ?_;(repeat constructor);intro _)
  refine wp_mkslice1 H (by omega) (by omega) fun v S1 H => ?_
  have hv : v = Ns ∨ (∃ a b c d, v = .sl a b c d) ∨ (∃ a b c d e, v = .op a b c d e) := by
    rcases ownSl_ok (H.oh _ (List.Mem.head _)) with ⟨rfl, _⟩ | ⟨id, off, c, (⟨cap, _, _, rfl⟩ | ⟨cap, _, _, rfl⟩), _⟩
    · exact .inl rfl
    · exact .inr (.inl ⟨_, _, _, _, rfl⟩)
    · exact .inr (.inr ⟨_, _, _, _, _, rfl⟩)
  refine wp_op (S1 := S1) (v := .agg [v]) (by rcases hv with rfl | ⟨_, _, _, _, rfl⟩ | ⟨_, _, _, _, _, rfl⟩ <;> rfl) ?_
  refine wp_op (S1 := S1) (v := .agg [v, Ns, I 0]) (by rcases hv with rfl | ⟨_, _, _, _, rfl⟩ | ⟨_, _, _, _, _, rfl⟩ <;> rfl) ?_
  refine wp_boxOwn H rfl fun f S2 H => ?_
  exact wp_ret ⟨rfl, f, v, rfl, H⟩
theorem good_fresh {n : Nat} (h1 : 1 ≤ n) (h2 : n ≤ 4096) : (Me.fresh n).good := by
  refine ⟨?_, ?_⟩
  · unfold Me.wf Me.fresh
    simp only [List.length_replicate]; omega
  · intro w hw
    unfold Me.fresh at hw
    have := (List.mem_replicate.1 hw).2
    subst this; omega
theorem _root_.Go.Abs.Cx.joinA {B0 S S1 : AH} {W : List Nat} {own : List Own} {ro : List Fct} (H : Cx B0 W S own ro) {v : AV} {es : Nat} {L : List (List AV)} (K : Cx S [] S1 [.sl v es L] []) : Cx B0 W S1 own (.sl v es L :: ro) := by
  have H2 : Cx B0 W S1 (.sl v es L :: own) ro := H.addOwn K.grows (K.oh _ (List.Mem.head _)) fun id hid => by
    have := K.oi _ (List.Mem.head _) id hid
    refine ⟨?_, this.1⟩
    have h2 := this.2
    exact Nat.le_of_not_lt fun h => by have := h2 h; simp at this
  exact H2.toRo (i := 0) rfl
end
end Go.Abs.X
set_option linter.unusedSectionVars false
namespace Go.Abs.X
variable [Ek]
open Go.Proofs
set_option maxRecDepth 100000
set_option linter.unusedVariables false
open Tsk (Tk tks tchk)
theorem lx_of {s : Su} {l : List Tk} (hc : s.chk l = 0) : ∃ (N C h J R : Nat) (g j m r : Int), s.cores = C ∧ s.jobs = J ∧ s.nodes = N ∧ s.height = h ∧ s.room = R ∧ Lx N C h l.length J R s.limit g j m r ∧ layE s l.length = exV N C h l.length J R s.limit g j m r ∧ layN s l.length = r + 3 * C + 1 ∧ tchk l = 0 := by
  obtain ⟨hf, ht, hp, hl, h1, h2⟩ := lay_bd hc
  unfold Su.fine at hf
  obtain ⟨co, jo, no, he, ro, li⟩ := s
  dsimp only at *
  obtain ⟨C, rfl⟩ : ∃ C : Nat, co = C := ⟨co.toNat, by omega⟩
  obtain ⟨J, rfl⟩ : ∃ C : Nat, jo = C := ⟨jo.toNat, by omega⟩
  obtain ⟨N, rfl⟩ : ∃ C : Nat, no = C := ⟨no.toNat, by omega⟩
  obtain ⟨h, rfl⟩ : ∃ C : Nat, he = C := ⟨he.toNat, by omega⟩
  obtain ⟨R, rfl⟩ : ∃ C : Nat, ro = C := ⟨ro.toNat, by omega⟩
  have e1 : ((N * (4 + h) : Nat) : Int) = N * (4 + h) := by simp
  have e2 : ((C * (R + 2) : Nat) : Int) = C * (R + 2) := by simp
  refine ⟨N, C, h, J, R, 6 + 2 * N + C + h + N * (4 + h), 6 + 2 * N + C + h + N * (4 + h) + l.length, 6 + 2 * N + C + h + N * (4 + h) + l.length + 3 * J + 1, 6 + 2 * N + C + h + N * (4 + h) + l.length + 3 * J + 1 + C * (R + 2), rfl, rfl, rfl, rfl, rfl, ⟨by omega, by omega, by omega, by omega, by omega, by omega, by omega, by omega, by omega, by rw [e1], rfl, rfl, by rw [e2]⟩, rfl, rfl, ht⟩
def wE (du : AV) (D : List Fi) (f : Nat) (fv : AV) (C m bl : Nat) (y : Me) (rest : List AV) (bx q : Nat) (row : List AV) (mp : Nat) : List Own :=
  [.sl du 2 (fis D), .obj f (.row [fv, Ns, I 0]), .sl fv 1 (List.replicate C [Np]), .obj m (.row (y.prow bl)), .obj bl (.row (y.ws.map U ++ rest)), .obj bx (.row [.ptr q 0]), .obj q (.row row), .obj mp (.map (ment []))]
def notesF (bx : Nat) : AV := .fn (.func 48) [] [.ptr bx 0]
section
variable {B0 S : AH} {W : List Nat} {own R : List Own} {ro : List Fct} {Q : Post} {k : AV → AC} {kc : AC}
theorem playNew_ok {s : Su} {v : AV} {l : List Tk} (hj : -9223372036854775808 ≤ s.jobs) (hc : s.chk l = 0) (hv : Fct.sl v 4 (tks l) ∈ ro) (H : Cx B0 W S own ro) : wpC EM (.fn (.func 24) [] []) [.agg (s.cs v), Ns] S fun r S' =>
    ∃ (N C h J Rm : Nat) (g j mf rr : Int) (f : Nat) (fv : AV) (m bl : Nat) (y : Me) (rest : List AV) (bx q d w mp : Nat) (u : AV) (blk : List Own), r = .tup [.ptr q 0, I 0] ∧ Lx N C h l.length J Rm s.limit g j mf rr ∧ s.cores = C ∧ WRep w (loadN ⟨0, []⟩ l l.length) blk ∧
      Cx B0 W S' (wE Ns [] f fv C m bl y rest bx q (pwr (exV N C h l.length J Rm s.limit g j mf rr) u m d f w mp Ns Ns 0 (notesF bx)) mp ++ (blk ++ own)) (.sl u 4 (tks l) :: ro) := by
  refine wpC_fn (b := Tryz.a24) rfl rfl ?_
  obtain ⟨N, C, h, J, Rm, g, j, mf, rr, e1, e2, e3, e4, e5, L, hE, hLN, htc⟩ := lx_of hc
  obtain ⟨hN, hC, hh, hn, hJ, hR, hl2, hP, hM, hg2, hj2, hm, hr⟩ := id L
  rw [Tryz.u24]
  refine wp_box H rfl fun p S1 H => ?_
  have H : Cx B0 W S1 own (.pt p 0 (s.cs v) :: ro) := H
  refine wp_ldn (o := 0) (n := 7) H (List.Mem.head _) rfl ?_
  refine wp_call (wpC_mono (layout_ok (s := s) (l := l) hj (H.roSl (List.mem_cons_of_mem _ hv))) fun r' S6 ⟨u, hr', K⟩ => ?_)
  rw [if_pos hc] at K
  rcases hr' with ⟨h0, _⟩ | ⟨_, rfl⟩
  · exact absurd hc h0
  rw [hE, hLN]
  have H := H.joinA K
  try(refine zz ?_;(repeat constructor);intro _)
  refine wp_tmpN H rfl rfl rfl fun pe S7 H => ?_
  have H : Cx B0 W S7 own (.pt pe 0 ((exV N C h l.length J Rm s.limit g j mf rr).cs u) :: .sl u 4 (tks l) :: .pt p 0 (s.cs v) :: ro) := H
  have me : Fct.pt pe 0 ((exV N C h l.length J Rm s.limit g j mf rr).cs u) ∈ (.pt pe 0 ((exV N C h l.length J Rm s.limit g j mf rr).cs u) :: .sl u 4 (tks l) :: .pt p 0 (s.cs v) :: ro) := by repeat (first | exact List.Mem.head _ | apply List.Mem.tail)
  have mu : Fct.sl u 4 (tks l) ∈ (.pt pe 0 ((exV N C h l.length J Rm s.limit g j mf rr).cs u) :: .sl u 4 (tks l) :: .pt p 0 (s.cs v) :: ro) := by repeat (first | exact List.Mem.head _ | apply List.Mem.tail)
  have mp' : Fct.pt p 0 (s.cs v) ∈ (.pt pe 0 ((exV N C h l.length J Rm s.limit g j mf rr).cs u) :: .sl u 4 (tks l) :: .pt p 0 (s.cs v) :: ro) := by repeat (first | exact List.Mem.head _ | apply List.Mem.tail)
  have back : ∀ {S own}, Cx B0 W S own (.pt pe 0 ((exV N C h l.length J Rm s.limit g j mf rr).cs u) :: .sl u 4 (tks l) :: .pt p 0 (s.cs v) :: ro) → Cx B0 W S own (.sl u 4 (tks l) :: ro) := fun H => H.dropRo fun φ hφ => by
    rcases List.mem_cons.1 hφ with rfl | hφ
    · exact List.Mem.tail _ (List.Mem.head _)
    · exact List.Mem.tail _ (List.Mem.tail _ (List.Mem.tail _ hφ))
  generalize (.pt pe 0 ((exV N C h l.length J Rm s.limit g j mf rr).cs u) :: .sl u 4 (tks l) :: .pt p 0 (s.cs v) :: ro) = ro1 at H me mu mp' back
  refine wp_neq_f (by omega) ?_
  try(refine zz ?_;(repeat constructor);intro _)
  refine wp_call (wpC_mono (draw0_ok H) fun r' S8 ⟨d, hr, H⟩ => ?_)
  subst hr
  try(refine zz ?_;(repeat constructor);intro _)
  refine wp_neq_f (by omega) ?_
  try(refine zz ?_;(repeat constructor);intro _)
  refine wp_ldn (o := 0) (n := 29) H me rfl ?_
  refine wp_mkmap H fun mp S9 H => ?_
  refine wp_op (v := .agg (nilW (exV N C h l.length J Rm s.limit g j mf rr) u d mp)) rfl ?_
  refine wp_boxOwn H rfl fun q S10 H => ?_
  refine wp_alloc H fun bx S11 H => ?_
  refine wp_set1 (j := 0) H 0 rfl (by simp) ⟨rfl, rfl⟩ fun S12 H => ?_
  have H : Cx B0 W S12 (.obj bx (.row [.ptr q 0]) :: .obj q (.row (nilW (exV N C h l.length J Rm s.limit g j mf rr) u d mp)) :: .obj mp (.map (ment [])) :: own) ro1 := H
  refine wp_row (j := 0) H 0 rfl rfl ?_
  obtain ⟨K2, hK2⟩ : ∃ n : Nat, rr + 3 * C + 1 = (n : Int) := ⟨(rr + 3 * C + 1).toNat, by omega⟩
  rw [hK2]
  refine wp_call (wpC_mono (newC_ok (n := K2) (by omega) (by omega) H) fun r' S8 ⟨m, bl, hr, H⟩ => ?_)
  subst hr
  refine wp_cko (o := 0) H 2 rfl rfl beq_ptr ?_
  try(refine zz ?_;(repeat constructor);intro _)
  refine wp_set1 (j := 29) H 3 rfl (Nat.le_of_ble_eq_true rfl) ⟨rfl, rfl⟩ fun S13 H => ?_
  refine wp_ldn (o := 0) (n := 29) H me rfl ?_
  refine wp_row (j := 0) H 2 rfl rfl ?_
  try(refine zz ?_;(repeat constructor);intro _)
  refine wp_row (j := 29) H 3 rfl rfl ?_
  have hfl : (Me.fresh K2).ws.length = K2 := by simp [Me.fresh]
  refine wp_call (wpC_mono (fillX_ok (u := u) (l := l) L rfl htc mu (good_fresh (by omega) (by omega)) rfl (by rw [hfl]; omega) H) fun r' S9 ⟨y, hy, hld, H⟩ => ?_)
  refine wp_row (j := 0) H 2 rfl rfl ?_
  try(refine zz ?_;(repeat constructor);intro _)
  refine wp_ld (o := 0) H mp' rfl ?_
  rw [e1]
  refine wp_call (wpC_mono (frame_ok (c := C) (by omega) H) fun r' S10 ⟨f, fv, hr, H⟩ => ?_)
  subst hr
  refine wp_cko (o := 0) H 4 rfl rfl beq_ptr ?_
  try(refine zz ?_;(repeat constructor);intro _)
  refine wp_set1 (j := 31) H 5 rfl (Nat.le_of_ble_eq_true rfl) ⟨rfl, rfl⟩ fun S14 H => ?_
  refine wp_row (j := 0) H 4 rfl rfl ?_
  refine wp_call (wpC_mono (Go.Abs.new_ok (now := 0) H) fun r' S15 qq => ?_)
  rcases qq with ⟨_, w, blk, rfl, hW, H⟩ | ⟨hn, _⟩
  rotate_left
  · exact absurd ⟨by omega, by omega⟩ hn
  have hW : WRep w ⟨0, []⟩ blk := hW
  have H : Cx B0 W S15 (blk ++ ([.obj f (.row [fv, Ns, I 0]), .sl fv 1 (List.replicate C [Np]), .obj m (.row (y.prow bl)), .obj bl (.row (y.ws.map U ++ List.replicate (4096 - K2) (U 0))), .obj bx (.row [.ptr q 0]), .obj q (.row (((nilW (exV N C h l.length J Rm s.limit g j mf rr) u d mp).set 29 (.ptr m 0)).set 31 (.ptr f 0))), .obj mp (.map (ment []))] ++ own)) ro1 := H
  have H : Cx B0 W S15 ([.obj f (.row [fv, Ns, I 0]), .sl fv 1 (List.replicate C [Np]), .obj m (.row (y.prow bl)), .obj bl (.row (y.ws.map U ++ List.replicate (4096 - K2) (U 0))), .obj bx (.row [.ptr q 0]), .obj q (.row (((nilW (exV N C h l.length J Rm s.limit g j mf rr) u d mp).set 29 (.ptr m 0)).set 31 (.ptr f 0))), .obj mp (.map (ment []))] ++ (blk ++ own)) ro1 := H.permS (List.perm_append_comm_assoc blk [.obj f (.row [fv, Ns, I 0]), .sl fv 1 (List.replicate C [Np]), .obj m (.row (y.prow bl)), .obj bl (.row (y.ws.map U ++ List.replicate (4096 - K2) (U 0))), .obj bx (.row [.ptr q 0]), .obj q (.row (((nilW (exV N C h l.length J Rm s.limit g j mf rr) u d mp).set 29 (.ptr m 0)).set 31 (.ptr f 0))), .obj mp (.map (ment []))] own)
  refine wp_cko (o := 0) H 4 rfl rfl beq_ptr ?_
  try(refine zz ?_;(repeat constructor);intro _)
  refine wp_set1 (j := 32) H 5 rfl (Nat.le_of_ble_eq_true rfl) ⟨rfl, rfl⟩ fun S16 H => ?_
  refine wp_row (j := 0) H 4 rfl rfl ?_
  try(refine zz ?_;(repeat constructor);intro _)
  refine wp_row (j := 32) H 5 rfl rfl ?_
  try(refine zz ?_;(repeat constructor);intro _)
  refine wp_ld (o := 28) H me rfl ?_
  refine wp_call (wpC_mono (Go.Abs.load_ok (l := l) (E := [.obj f (.row [fv, Ns, I 0]), .sl fv 1 (List.replicate C [Np]), .obj m (.row (y.prow bl)), .obj bl (.row (y.ws.map U ++ List.replicate (4096 - K2) (U 0))), .obj bx (.row [.ptr q 0]), .obj q (.row ((((nilW (exV N C h l.length J Rm s.limit g j mf rr) u d mp).set 29 (.ptr m 0)).set 31 (.ptr f 0)).set 32 (.ptr w 0))), .obj mp (.map (ment []))]) mu hW H) fun r' S17 ⟨hr, blk2, hW2, H⟩ => ?_)
  subst hr
  have hld2 : loadX ⟨0, []⟩ l = loadN ⟨0, []⟩ l l.length := by unfold loadX; rw [if_pos htc]
  rw [hld2] at hW2
  refine wp_row (j := 0) H 4 rfl rfl ?_
  try(refine zz ?_;(repeat constructor);intro _)
  refine wp_set1 (j := 37) H 5 rfl (Nat.le_of_ble_eq_true rfl) ⟨rfl, rfl⟩ fun S18 H => ?_
  refine wp_row (j := 0) H 4 rfl rfl ?_
  refine wp_ret ⟨rfl, N, C, h, J, Rm, g, j, mf, rr, f, fv, m, bl, y, List.replicate (4096 - K2) (U 0), bx, q, d, w, mp, u, blk2, rfl, L, rfl, hW2, ?_⟩
  exact (back H).addNilS 2
end
end Go.Abs.X
set_option linter.unusedSectionVars false
namespace Go.Abs.X
variable [Ek]
open Go.Proofs
set_option maxRecDepth 100000
set_option linter.unusedVariables false
open Tsk (Tk tks tchk)
theorem sm_chk {s : Su} {l : List Tk} (h : Sm s) (hc : tchk l = 0) (hl : 0 < l.length) : s.chk l = 0 := by
  obtain ⟨h1, h2, h3, h4, h5, h6⟩ := h
  unfold Su.chk
  rw [if_pos (show s.fine by unfold Su.fine; omega), if_neg (by rw [hc]; simp), if_neg (by omega)]
section
variable {B0 S : AH} {W : List Nat} {own R : List Own} {ro : List Fct} {Q : Post} {k : AV → AC} {kc : AC}
theorem world_ok {v : AV} {nums : List Int} (hv : Fct.sl v 1 (ints nums) ∈ ro) (H : Cx B0 W S own ro) : wpC EM (.fn (.func 5) [] []) [v, I 50, Ns] S fun r S' =>
    ∃ (p e : Nat → Int) (n : Nat) (u0 : AV) (N C h J Rm : Nat) (lim g j mf rr : Int) (f : Nat) (fv : AV) (m bl : Nat) (y : Me) (rest : List AV) (bx q d w mp : Nat) (u : AV) (blk : List Own), r = .ptr q 0 ∧ (1 ≤ n ∧ n ≤ 6) ∧ smOk p e ∧ Lx N C h n J Rm lim g j mf rr ∧ WRep w (loadN ⟨0, []⟩ (smL p e n) n) blk ∧
      Cx B0 W S' (wE Ns [] f fv C m bl y rest bx q (pwr (exV N C h n J Rm lim g j mf rr) u m d f w mp Ns Ns 0 (notesF bx)) mp ++ (blk ++ own)) (.sl u 4 (tks (smL p e n)) :: ro) := by
  refine wpC_fn (b := Tryz.a5) rfl rfl ?_
  rw [Tryz.u5]
  refine wp_call (wpC_mono (small_ok hv H) fun r S1 ⟨s, p, e, n, u, hr, hn, hpe, hsm, H⟩ => ?_)
  subst hr
  refine wp_alloc H fun z S2 H => ?_
  have hu : Fv u := slOk_one (ownSl_ok (H.oh _ (List.Mem.tail _ (List.Mem.head _))))
  refine wp_store (n := 7) (v := .agg (s.cs u)) H 0 (c := [I 0, I 0, I 0, I 0, I 0, I 0, Ns]) rfl rfl rfl (by simp) fun S3 H => ?_
  have H : Cx B0 W S3 (.obj z (.row (s.cs u)) :: .sl u 4 (tks (midL p e n 0)) :: own) ro := by rw [midL_zero]; exact H
  refine wp_bind (wp_loop (wpL_for ((n + 1) / 2) (fun i vs S' => vs = [I ((2 * i : Nat) : Int)] ∧ Cx B0 W S' (.obj z (.row (s.cs u)) :: .sl u 4 (tks (midL p e n i)) :: own) ro) ?_ ?_ ⟨rfl, H⟩))
  · clear H
    rintro i vs S4 hi ⟨rfl, H⟩
    have h2 : 2 * i < n := by omega
    try(refine zz ?_;(repeat constructor);intro _)
    refine wp_row (j := 6) H 0 rfl rfl ?_
    refine wp_leno H 1 rfl ?_
    rw [Tsk.tks_len, midL_len]
    refine wp_lss_t (by omega) ?_
    try(refine zz ?_;(repeat constructor);intro _)
    refine wp_bind ?_
    try(refine zz ?_;(repeat constructor);intro _)
    refine wp_row (j := 6) H 0 rfl rfl ?_
    try(refine zz ?_;(repeat constructor);intro _)
    refine wp_row (j := 6) H 0 rfl rfl ?_
    have hmid : midT p e i (2 * i) = ⟨2, p (2 * i), e (2 * i), 0⟩ := by unfold midT; rw [if_neg (by omega)]
    refine wp_saddro H 1 rfl (midL_get (t := 2 * i) h2) fun id off hp => ?_
    rw [hmid] at hp
    try(refine zz ?_;(repeat constructor);intro _)
    refine wp_loadF (j := 1) hp rfl ?_
    try(refine zz ?_;(repeat constructor);intro _)
    refine wp_row (j := 6) H 0 rfl rfl ?_
    refine wp_saddro H 1 rfl (midL_get (t := 2 * i) h2) fun id2 off2 hp2 => ?_
    rw [hmid] at hp2
    try(refine zz ?_;(repeat constructor);intro _)
    refine wp_loadF (j := 2) hp2 rfl ?_
    have hb := hpe (2 * i)
    refine wp_add64 (by show _ ≤ (3 + e (2 * i) : Int); omega) (by show (3 + e (2 * i) : Int) ≤ _; omega) ?_
    have hsT : (smT p e (2 * i)).cs = [I 1, I (p (2 * i)), I (3 + e (2 * i)), I ((2 * i : Nat) : Int)] := by unfold smT; rw [if_pos (by omega)]; rfl
    refine wp_op (v := .agg (smT p e (2 * i)).cs) (by rw [hsT]; rfl) ?_
    refine wp_storeE (y := .agg (smT p e (2 * i)).cs) (i := 2 * i) H 1 rfl (by rw [Tsk.tks_len, midL_len]; exact h2) rfl (by rw [hsT]; rfl) fun S5 H => ?_
    refine wp_ret ?_
    show wp EM _ _ _
    refine wp_add64 (by omega) (by omega) ?_
    refine wp_ret (.inl ⟨rfl, ?_, ?_⟩)
    · rw [show ((2 * (i + 1) : Nat) : Int) = ((2 * i : Nat) : Int) + 2 by omega]
    · rw [← midL_set h2]; exact H
  · clear H
    rintro vs S4 ⟨rfl, H⟩
    try(refine zz ?_;(repeat constructor);intro _)
    refine wp_row (j := 6) H 0 rfl rfl ?_
    refine wp_leno H 1 rfl ?_
    rw [Tsk.tks_len, midL_len]
    refine wp_lss_f (by omega) ?_
    try(refine zz ?_;(repeat constructor);intro _)
    refine wp_ret ⟨by simp, ?_⟩
    show wp EM _ _ _
    refine wp_loadoa (n := 7) H 0 rfl (by simp [Su.cs]) ?_
    rw [midL_end] at H
    have H := H.dropAt 0
    have H := H.toRo (i := 0) rfl
    have H : Cx B0 W S4 own (.sl u 4 (tks (smL p e n)) :: ro) := H
    have hchk := smL_chk hpe hn.2
    have hlen := smL_len p e n
    refine wp_call (wpC_mono (playNew_ok (s := s) (l := smL p e n) (by have := hsm.j; omega) (sm_chk hsm hchk (by omega)) (List.Mem.head _) H) fun r' S5 q => ?_)
    obtain ⟨N, C, h, J, Rm, g, j, mf, rr, f, fv, m, bl, y, rest, bx, q, d, w, mp, u2, blk, rfl, L, hC, hW, H⟩ := q
    rw [hlen] at L hW H
    try(refine zz ?_;(repeat constructor);intro _)
    refine wp_neq_f (by omega) ?_
    try(refine zz ?_;(repeat constructor);intro _)
    refine wp_ret ⟨rfl, p, e, n, u, N, C, h, J, Rm, s.limit, g, j, mf, rr, f, fv, m, bl, y, rest, bx, q, d, w, mp, u2, blk, rfl, hn, hpe, L, hW, ?_⟩
    exact H.dropRo fun φ hφ => by
      rcases List.mem_cons.1 hφ with rfl | hφ
      · exact List.Mem.head _
      · exact List.Mem.tail _ (List.Mem.tail _ hφ)
end
end Go.Abs.X
