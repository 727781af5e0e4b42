/- functions of this cut: what they compute, in the abstract machine. Conditions: stated in each theorem -/
import Derived.Test.YtdidccjcbfcklaaGreatM1
import Derived.Test.YtdidccjcbfcklaaGreatAc
set_option linter.unusedVariables false
set_option linter.unusedSectionVars false
set_option linter.unusedSimpArgs false
namespace Go.Abs
variable [Ek]
open Go.Proofs
set_option maxRecDepth 100000
set_option linter.unusedVariables false
section
variable {B0 S : AH} {W : List Nat} {own E R : List Own} {ro : List Fct} {w : Nat} {x : Wl} {blk : List Own}
theorem Wl.Ok.empty {now : Nat} (h : now ≤ 1099511627776) : Wl.Ok ⟨now, []⟩ := ⟨h, List.Pairwise.nil, List.Pairwise.nil, fun _ h => (by cases h), fun _ h => (by cases h), fun _ h => (by cases h)⟩
theorem mapOk_nil : MapOk [] [] := ⟨List.Pairwise.nil, fun _ => rfl⟩
theorem Cx.newW {m now : Nat} (H : Cx B0 W S (.obj w (.row (wrow now m fun _ => Ns)) :: .obj m (.map (ment [])) :: own) ro) :
    Cx B0 W S (wOwn w m (wrow now m fun _ => Ns) [] (fun _ => Ns) (fun _ => []) ++ own) ro := by
  have H2 := H.addNils 2 176
  refine H2.perm ?_
  unfold wOwn
  have e : ((List.range 176).map fun k => Own.sl Ns 2 (fis [])) = List.replicate 176 (.sl Ns 2 []) := range_const 176 _
  rw [e]
  generalize List.replicate 176 (Own.sl Ns 2 []) = N
  have := List.perm_append_comm_assoc N [Own.obj w (.row (wrow now m fun _ => Ns)), .obj m (.map (ment []))] own
  exact this
theorem new_ok (H : Cx B0 W S own ro) {now : Int} : wpC EM (.fn (.func 46) [] []) [I now] S fun r S' =>
    ((0 ≤ now ∧ now ≤ 1099511627776) ∧ ∃ w blk, r = .tup [.ptr w 0, I 0] ∧ WRep w ⟨now.toNat, []⟩ blk ∧ Cx B0 W S' (blk ++ own) ro) ∨ (¬ (0 ≤ now ∧ now ≤ 1099511627776) ∧ r = .tup [Np, I 3] ∧ Cx B0 W S' own ro) := by
  refine wpC_fn (b := Tryz.a46) rfl rfl ?_
  rw [Tryz.u46]
  refine wp_callV H time_ok fun S1 H => ?_
  by_cases ht : 0 ≤ now ∧ now ≤ 1099511627776
  · rw [decide_eq_true ht]
    refine wp_op (v := B false) rfl ?_
    try(refine zz ?_;(repeat constructor);intro _)
    obtain ⟨n, rfl⟩ : ∃ n : Nat, now = (n : Int) := ⟨now.toNat, by omega⟩
    refine wp_mkmap H fun m S2 H => ?_
    refine wp_op (v := .agg (wrow n m fun _ => Ns)) (by rfl) ?_
    skip
    refine wp_boxOwn H rfl fun w S3 H => ?_
    have H : Cx B0 W S3 (.obj w (.row (wrow n m fun _ => Ns)) :: .obj m (.map (ment [])) :: own) ro := H
    exact wp_ret ⟨rfl, .inl ⟨ht, w, _, rfl, ⟨Wl.Ok.empty (by omega), m, fun _ => Ns, [], mapOk_nil, rfl⟩, H.newW⟩⟩
  · rw [decide_eq_false ht]
    refine wp_op (v := B true) rfl ?_
    try(refine zz ?_;(repeat constructor);intro _)
    exact wp_ret ⟨rfl, .inr ⟨ht, rfl, H⟩⟩
theorem ins_last {f : Fi} {D : List Fi} (h : ∀ g ∈ D, g.lt f) : ins f D = D ++ [f] := by
  induction D with
  | nil => rfl
  | cons g r ih =>
    unfold ins
    rw [if_neg (Fi.lt_asymm (h g (by simp))), ih fun a ha => h a (by simp [ha])]
    rfl
theorem Wl.Ok.pre {x : Wl} (h : x.Ok) {D T : List Fi} (e : x.L = D ++ T) : Wl.Ok ⟨x.now, D⟩ where
  clk := h.clk
  ord := h.ord.sublist (e ▸ List.sublist_append_left _ _)
  nd := h.nd.sublist ((e ▸ List.sublist_append_left D T).map _)
  ge := fun f hf => h.ge f (e ▸ List.mem_append_left _ hf)
  le := fun f hf => h.le f (e ▸ List.mem_append_left _ hf)
  id := fun f hf => h.id f (e ▸ List.mem_append_left _ hf)
theorem copyW_ok (h : WRep w x blk) (H : Cx B0 W S (E ++ (blk ++ R)) ro) :
    wpC EM (.fn (.func 94) [] []) [.ptr w 0] S fun r S' => ∃ w' blk', r = .ptr w' 0 ∧ WRep w' x blk' ∧ Cx B0 W S' (blk' ++ (E ++ (blk ++ R))) ro := by
  refine wpC_fn (b := Tryz.a94) rfl rfl ?_
  unfold Tryz.a94 
  refine wp_call (wpC_mono (none_ok h H) fun v S1 ⟨hv, H⟩ => ?_)
  subst hv
  obtain ⟨ho, m, vs, Mp, hM, rfl⟩ := h
  try(refine zz ?_;(repeat constructor);intro _)
  refine wp_row H _ wO_row (v := I x.now) rfl ?_
  unfold Tryz.a94x3 
  refine wp_call (wpC_mono (new_ok H) fun r S2 q => ?_)
  have hclk := ho.clk
  rcases q with ⟨_, w', blk', rfl, h', H⟩ | ⟨hn, _⟩
  · try(refine zz ?_;(repeat constructor);intro _)
    refine wp_alloc H fun p S3 H => ?_
    refine wp_set1 (c := [Np]) (j := 0) (v := .ptr w' 0) H 0 rfl (by simp) rfl rfl fun S4 H => ?_
    refine wp_call (wpC_fn (b := Tryz.a142) rfl rfl ?_)
    rw [Tryz.u142]
    refine wp_box (x := .ptr w 0) H rfl fun b1 S5 H => ?_
    refine wp_ret ⟨rfl, ?_⟩
    have hD := all_drives (B0 := B0) (W := W) (ro := .pt b1 0 [.ptr w 0] :: ro) (bw := b1) (w := w) (m := m) (now := x.now) (Mp := Mp) (vs := vs) (fs := x.slot) (by repeat (first | exact List.Mem.head _ | apply List.Mem.tail)) ho.slot_len
    rw [all_aggs, allL_ok ho] at hD
    unfold Tryz.a94x2 
    let own0 := E ++ (wOwn w m (wrow x.now m vs) Mp vs x.slot ++ R)
    refine wp_bind (wp_rngD hD (fun y own h => h.cons y) (fun i h => by cases h) (fun d own => ∃ D T blk', d = aggs D ∧ x.L = D ++ T ∧ WRep w' ⟨x.now, D⟩ blk' ∧ own = .obj p (.row [.ptr w' 0]) :: (blk' ++ own0)) (fun _ _ => False)
      (fun d own ⟨D, T, blk', _, _, _, e⟩ => by rw [e]; exact ⟨.obj p (.row [.ptr w' 0]) :: (blk' ++ E), R, by simp [own0]⟩) ?_ (E := []) (own := .obj p (.row [.ptr w' 0]) :: (blk' ++ own0)) ⟨[], x.L, blk', rfl, rfl, h', rfl⟩ H ?_ ?_)
    · rintro l d e r hes E' own2 S6 ro2 hro ⟨D, T, blk2, rfl, hx, h2, rfl⟩ H2
      obtain ⟨D', f, L', hL, hd, rfl, rfl⟩ := aggs_split hes
      have hDD := aggs_inj hd
      subst hDD
      unfold Tryz.a94x1 
      refine wp_round2 (x := I (f.id : Int)) (y := I (f.tm : Int)) H2 fun q S7 H7 => ?_
      refine wp_bind ?_
      unfold Tryz.a94x0 
      refine wp_row (c := [.ptr w' 0]) (j := 0) H7 (E'.length + 1) (app_get rfl) rfl ?_
      refine wp_loada (n := 2) (id := q) (off := 0) (cs := f.cs) H7 (by repeat (first | exact List.Mem.head _ | apply List.Mem.tail)) (Nat.le_refl _) ?_
      have hf : f ∈ x.L := by rw [hL]; simp
      have hord := ho.ord
      rw [hL] at hord
      have hlt : ∀ g ∈ D, g.lt f := fun g hg => (List.pairwise_append.1 hord).2.2 g hg f (by simp)
      have hnd : ∀ g ∈ D, g.id ≠ f.id := fun g hg e => by
        have := ho.inj (by rw [hL]; simp [hg]) hf e
        exact Fi.lt_irrefl f (this ▸ hlt g hg)
      have e8 : E' ++ Own.obj l (.loop .busy none 1 fun v11 => Tryz.a94x1 (.ptr p 0) v11) :: .obj p (.row [.ptr w' 0]) :: (blk2 ++ own0) = (E' ++ [Own.obj l (.loop .busy none 1 fun v11 => Tryz.a94x1 (.ptr p 0) v11), .obj p (.row [.ptr w' 0])]) ++ (blk2 ++ own0) := by simp
      have H8 : Cx B0 W S7 ((E' ++ [Own.obj l (.loop .busy none 1 fun v11 => Tryz.a94x1 (.ptr p 0) v11), .obj p (.row [.ptr w' 0])]) ++ (blk2 ++ own0)) (.pt q 0 [I (f.id : Int), I (f.tm : Int)] :: ro2) := e8 ▸ H7
      refine wp_call (wpC_mono (putW (f := f) h2 H8 hnd (ho.ge f hf) (ho.le f hf) (ho.id f hf)) fun r S9 ⟨blk3, h3, H9⟩ => ?_)
      refine wp_ret ?_
      show wp EM _ _ _
      have H10 : Cx B0 W S9 (E' ++ Own.obj l (.loop .busy none 1 fun v11 => Tryz.a94x1 (.ptr p 0) v11) :: .obj p (.row [.ptr w' 0]) :: (blk3 ++ own0)) (.pt q 0 [I (f.id : Int), I (f.tm : Int)] :: ro2) := by
        rw [List.append_assoc] at H9; exact H9
      refine wp_ret ⟨_, H10.tl, .inl ⟨rfl, D ++ [f], L', blk3, by simp [aggs], by rw [hL]; simp, ?_, rfl⟩⟩
      rw [← ins_last hlt]; exact h3
    · rintro S6 own2 ⟨D, T, blk2, hd, hx, h2, rfl⟩ H6
      have hDD := aggs_inj hd
      subst hDD
      refine wp_ret ?_
      show wp EM _ _ _
      refine wp_row (c := [.ptr w' 0]) (j := 0) H6 0 rfl rfl ?_
      refine wp_ret ⟨rfl, w', blk2, rfl, ?_, (H6.dropAt 0).tl⟩
      exact h2
    · intro t S6 own2 _ h
      cases h
  · exact absurd ⟨by omega, by omega⟩ hn
end
end Go.Abs
namespace Go.Abs
variable [Ek]
open Go.Proofs
set_option maxRecDepth 100000
set_option linter.unusedVariables false
open Tsk (Tk tks tchk tnext timed since many TOk)
def nxt (x : Tk) (now : Int) : Option Nat := if timed x = true ∧ since x.first x.every now < many x.first x.every then some (x.first + since x.first x.every now * x.every).toNat else none
theorem nxt_ok (x : Tk) (now : Int) : (∃ t : Nat, nxt x now = some t ∧ tnext x now = .tup [I (t : Int), B true] ∧ now ≤ (t : Int) ∧ t ≤ 1099511627776) ∨ (nxt x now = none ∧ tnext x now = .tup [I 0, B false]) := by
  unfold nxt tnext
  by_cases h : timed x = true ∧ since x.first x.every now < many x.first x.every
  · rw [if_pos h, if_pos h]
    have hT := Tsk.timed_ok h.1
    have h0 := (Tsk.since_bd (now := now) hT).1
    have h1 := Tsk.time_bd hT h0 h.2
    have h2 := hT.f0
    have h3 : now ≤ x.first + since x.first x.every now * x.every := by
      have := Tsk.time_lt (b := now) hT h0 h.2
      omega
    refine .inl ⟨_, rfl, ?_, by omega, by omega⟩
    have : ((x.first + since x.first x.every now * x.every).toNat : Int) = x.first + since x.first x.every now * x.every := by omega
    rw [this]
  · rw [if_neg h, if_neg h]
    exact .inr ⟨rfl, rfl⟩
section
variable {B0 S : AH} {W : List Nat} {own E R : List Own} {ro : List Fct} {w : Nat} {x : Wl} {blk : List Own}
def loadN (x : Wl) (l : List Tk) : Nat → Wl
  | 0 => x
  | i + 1 => match l[i]? with
    | some t => (match nxt t x.now with
      | some a => (loadN x l i).put ⟨i, a⟩
      | none => loadN x l i)
    | none => loadN x l i
theorem loadN_now (x : Wl) (l : List Tk) : ∀ i, (loadN x l i).now = x.now
  | 0 => rfl
  | i + 1 => by
    unfold loadN
    split
    · split
      · exact loadN_now x l i
      · exact loadN_now x l i
    · exact loadN_now x l i
def loadX (x : Wl) (l : List Tk) : Wl := if tchk l = 0 then loadN x l l.length else x
theorem wp_tmp4 {M : Mach} {Q : Post} {k : AV → AC} (H : Cx B0 W S own ro) {a b c d : AV} (h : ∀ id S1, Cx B0 W S1 own (.pt id 0 [a, b, c, d] :: ro) → wp M (k (.ptr id 0)) S1 Q) : wp M (.op (.alloc [I 0, I 0, I 0, I 0]) fun p => .op (.store 4 p (.agg [a, b, c, d])) fun _ => k p) S Q := by
  refine wp_alloc H fun id S1 H1 => ?_
  refine wp_store H1 0 (c := [I 0, I 0, I 0, I 0]) rfl rfl rfl (by simp) fun S2 H2 => ?_
  have H2 : Cx B0 W S2 (.obj id (.row [a, b, c, d]) :: own) ro := H2
  exact h id S2 (H2.freeze (i := 0) rfl)
theorem load_ok {v : AV} {l : List Tk} (hv : Fct.sl v 4 (tks l) ∈ ro) (h : WRep w x blk) (H : Cx B0 W S (E ++ (blk ++ R)) ro) :
    wpC EM (.fn (.func 47) [] []) [.ptr w 0, v] S fun r S' => r = I (tchk l) ∧ ∃ blk', WRep w (loadX x l) blk' ∧ Cx B0 W S' (E ++ (blk' ++ R)) ro := by
  refine wpC_fn (b := Tryz.a47) rfl rfl ?_
  rw [Tryz.u47]
  refine wp_call (wpC_mono (none_ok h H) fun u S1 ⟨hu, H⟩ => ?_)
  subst hu
  try(refine zz ?_;(repeat constructor);intro _)
  refine wp_callV H (Tsk.check_ok (l := l) (H.roSl hv)) fun S2 H => ?_
  unfold loadX
  refine wp_neq (fun hne => ?_) (fun hz => ?_)
  · try(refine zz ?_;(repeat constructor);intro _)
    rw [if_neg hne]
    exact wp_ret ⟨rfl, rfl, blk, h, H⟩
  · try(refine zz ?_;(repeat constructor);intro _)
    rw [if_pos hz, hz]
    have hlen := Tsk.tchk_len hz
    skip
    refine wp_len H hv ?_
    rw [Tsk.tks_len]
    refine wp_bind (wp_loop (wpL_inv (fun k vs1 S1 => ∃ (i : Nat) (blk : List Own), vs1 = [I (i : Int)] ∧ i ≤ l.length ∧ k = l.length - i ∧ WRep w (loadN x l i) blk ∧ Cx B0 W S1 (E ++ (blk ++ R)) ro) ?_ l.length ⟨0, blk, rfl, by omega, by omega, h, H⟩))
    clear H h
    rintro k vs1 S1 ⟨i, blk, rfl, hi, rfl, h, H⟩
    skip
    refine wp_lss (fun hlt => ?_) (fun hge => ?_)
    · have hlt : i < l.length := by omega
      try(refine zz ?_;(repeat constructor);intro _)
      refine wp_bind ?_
      skip
      refine wp_saddr (i := i) H hv (Tsk.tks_get hlt) fun q qo H1 => ?_
      refine wp_loada (n := 4) H1 (cs := l[i].cs) (by repeat (first | exact List.Mem.head _ | apply List.Mem.tail)) (Nat.le_refl _) ?_
      refine wp_tmp4 (a := I l[i].kind) (b := I l[i].prio) (c := I l[i].every) (d := I l[i].first) H1.tl fun p S2 H => ?_
      refine wp_loada (n := 4) H (id := p) (off := 0) (cs := l[i].cs) (by repeat (first | exact List.Mem.head _ | apply List.Mem.tail)) (Nat.le_refl _) ?_
      try(refine zz ?_;(repeat constructor);intro _)
      have h0 := h
      obtain ⟨ho, m, vs, Mp, hM, rfl⟩ := h
      refine wp_row (j := 0) H _ wO_row (v := I (loadN x l i).now) rfl ?_
      rw [loadN_now]
      refine wp_callV H (Tsk.next_ok (x := l[i]) (now := x.now)) fun S3 H => ?_
      have e1 : loadN x l (i + 1) = match nxt l[i] x.now with | some a => (loadN x l i).put ⟨i, a⟩ | none => loadN x l i := by
        conv => lhs; unfold loadN
        rw [List.getElem?_eq_getElem hlt]
      rcases nxt_ok l[i] x.now with ⟨t, hn, ht, hge, hle⟩ | ⟨hn, ht⟩
      · rw [ht]
        try(refine zz ?_;(repeat constructor);intro _)
        skip
        refine wp_bind (wp_ite_t ?_)
        refine wp_call (wpC_mono (set_ok (id := (i : Int)) (at' := (t : Int)) h0 H.tl) fun r S4 ⟨_, blk2, h2, H2⟩ => ?_)
        refine wp_ret ?_
        show wp EM _ _ _
        refine wp_ret ?_
        show wp EM _ _ _
        skip
        refine wp_add64 (by omega) (by omega) (wp_ret (.inl ⟨rfl, l.length - (i + 1), by omega, i + 1, blk2, rfl, by omega, rfl, ?_, H2⟩))
        rw [e1, hn]
        have hz2 : setE (loadN x l i) (i : Int) (t : Int) = 0 := by
          unfold setE
          rw [loadN_now, if_neg (by omega), if_neg (by omega)]
        unfold setX at h2
        rw [if_pos hz2] at h2
        exact h2
      · rw [ht]
        try(refine zz ?_;(repeat constructor);intro _)
        skip
        refine wp_bind (wp_ite_f (wp_ret ?_))
        show wp EM _ _ _
        refine wp_ret ?_
        show wp EM _ _ _
        skip
        refine wp_add64 (by omega) (by omega) (wp_ret (.inl ⟨rfl, l.length - (i + 1), by omega, i + 1, _, rfl, by omega, rfl, ?_, H.tl⟩))
        rw [e1, hn]
        exact h0
    · have : i = l.length := by omega
      subst this
      try(refine zz ?_;(repeat constructor);intro _)
      refine wp_ret (.inr ⟨by simp, ?_⟩)
      show wp EM _ _ _
      exact wp_ret ⟨rfl, rfl, blk, h, H⟩
end
end Go.Abs
namespace Go.Abs
variable [Ek]
open Go.Proofs
set_option maxRecDepth 100000
set_option linter.unusedVariables false
open Tsk (Tk tks tchk)
theorem slOk_odd1 {S : AH} {v : AV} {es : Nat} {L : List (List AV)} (h : slOk S v es L) : odd v = false ∧ v.cells = [v] := by
  rcases h with ⟨rfl, _⟩ | ⟨id, off, c, h0, _⟩
  · exact ⟨rfl, rfl⟩
  · rcases h0 with ⟨_, _, _, rfl⟩ | ⟨_, _, _, rfl⟩ <;> exact ⟨rfl, rfl⟩
theorem orE_ok {S : AH} {v : AV} {l : List Int} (hv : RoSl S v 1 (ints l)) (hl : l.length < 1000000) : wpC EM (.fn (.func 143) [] []) [v] S fun r S' => r = I (orI l) ∧ Grows S S' := by
  refine wpC_fn (b := Tryz.a143) rfl rfl ?_
  have H := Cx.ro1 hv
  rw [Tryz.u143]
  refine wp_len H (by repeat (first | exact List.Mem.head _ | apply List.Mem.tail)) ?_
  rw [ints_len]
  refine wp_bind (wp_loop (wpL_inv (fun m vs S1 => ∃ (i : Nat) (u : AV), vs = [I (i : Int), u] ∧ i ≤ l.length ∧ m = l.length - i ∧ orI l = orI (l.drop i) ∧ Cx S [] S1 [] [.sl v 1 (ints l)]) ?_ l.length ⟨0, _, rfl, by omega, by omega, rfl, H⟩))
  rintro m vs S1 ⟨i, u, rfl, hi, rfl, he, H⟩
  refine wp_lss (fun hlt => ?_) (fun hge => ?_)
  · have hlt : i < l.length := by omega
    try(refine zz ?_;(repeat constructor);intro _)
    refine wp_bind ?_
    refine wp_saddr (i := i) (x := [I l[i]]) H (by repeat (first | exact List.Mem.head _ | apply List.Mem.tail)) (by simp [ints, hlt]) fun p off H1 => ?_
    refine wp_load0 H1 (by repeat (first | exact List.Mem.head _ | apply List.Mem.tail)) rfl ?_
    rw [orI_drop hlt] at he
    refine wp_neq (fun hne => ?_) (fun hz => ?_)
    · try(refine zz ?_;(repeat constructor);intro _)
      rw [if_pos hne] at he
      exact wp_ret (.inr ⟨by simp, rfl, by rw [he]; rfl, H.grows⟩)
    · try(refine zz ?_;(repeat constructor);intro _)
      rw [if_neg (by simpa using hz)] at he
      refine wp_ret ?_
      show wp EM _ _ _
      exact wp_add64 (by omega) (by omega) (wp_ret (.inl ⟨rfl, l.length - (i + 1), by omega, i + 1, _, rfl, by omega, rfl, he, H⟩))
  · try(refine zz ?_;(repeat constructor);intro _)
    refine wp_ret (.inr ⟨by simp, wp_ret ⟨rfl, ?_, H.grows⟩⟩)
    rw [List.drop_of_length_le (by omega)] at he
    rw [he]; rfl
/-! ### a run -/
def again (l : List Tk) (f : Fi) (x : Wl) : Wl := match l[f.id]? with
  | some t => (match nxt t ((f.tm : Int) + 1) with
    | some a => ⟨x.now, ins ⟨f.id, a⟩ x.L⟩
    | none => x)
  | none => x
def runN (l : List Tk) (to : Int) : Nat → Wl → List Fi → Option (Wl × List Fi)
  | 0, _, _ => none
  | n + 1, x, out => match x.L with
    | [] => some (x, out)
    | f :: L' => if (f.tm : Int) ≤ to then (if n = 0 then none else runN l to n (again l f ⟨x.now, L'⟩) (out ++ [f])) else some (x, out)
def runE (x : Wl) (l : List Tk) (to : Int) : Int := if orI [tchk l, mayE x to] ≠ 0 then orI [tchk l, mayE x to] else match runN l to 4097 x [] with
  | some _ => 0
  | none => 4
def runX (x : Wl) (l : List Tk) (to : Int) : Wl := if orI [tchk l, mayE x to] ≠ 0 then x else match runN l to 4097 x [] with
  | some (y, _) => ⟨to.toNat, y.L⟩
  | none => x
def runL (x : Wl) (l : List Tk) (to : Int) : List Fi := if orI [tchk l, mayE x to] ≠ 0 then [] else match runN l to 4097 x [] with
  | some (_, out) => out
  | none => []
section
variable {B0 S : AH} {W : List Nat} {own E R : List Own} {ro : List Fct} {w : Nat} {x : Wl} {blk : List Own}
theorem Wl.Ok.tail {x : Wl} (h : x.Ok) {f : Fi} {L' : List Fi} (e : x.L = f :: L') : Wl.Ok ⟨x.now, L'⟩ := by
  have := h.rmv f.id
  rw [rmv_head h e] at this
  exact this
theorem notin_tail {x : Wl} (h : x.Ok) {f : Fi} {L' : List Fi} (e : x.L = f :: L') : ∀ g ∈ L', g.id ≠ f.id := by
  have hn := h.nd
  rw [e] at hn
  simp only [List.map_cons, List.nodup_cons] at hn
  exact fun g hg e2 => hn.1 (e2 ▸ List.mem_map.2 ⟨g, hg, rfl⟩)
theorem run_ok {v : AV} {l : List Tk} {to : Int} (hv : Fct.sl v 4 (tks l) ∈ ro) (h : WRep w x blk) (H : Cx B0 W S (E ++ (blk ++ R)) ro) :
    wpC EM (.fn (.func 95) [] []) [.ptr w 0, v, I to] S fun r S' => ∃ u blk', r = .tup [u, I (runE x l to)] ∧ WRep w (runX x l to) blk' ∧ Cx B0 W S' (.sl u 2 (fis (runL x l to)) :: (E ++ (blk' ++ R))) ro := by
  refine wpC_fn (b := Tryz.a95) rfl rfl ?_
  unfold Tryz.a95 
  refine wp_fin ?_
  have hvo := slOk_odd1 (H.rh _ hv)
  refine wp_box (x := v) H hvo.1 fun bl S1 H => ?_
  rw [hvo.2] at H
  refine wp_alloc H fun p S2 H => ?_
  refine wp_alloc H fun q S3 H => ?_
  have fin : ∀ (S : AH) (u : AV) (e : Int) (blk' : List Own) (L : List Fi), runE x l to = e → runL x l to = L → WRep w (runX x l to) blk' → Cx B0 W S (.sl u 2 (fis L) :: .obj q (.row [I e]) :: .obj p (.row [u]) :: (E ++ (blk' ++ R))) (.pt bl 0 [v] :: ro) →
      wp EM (.op (.load 1 false (.ptr p 0)) fun v2 => .op (.load 1 false (.ptr q 0)) fun v3 => .ret .ret [v2, v3]) S fun t vs S' => t = .ret ∧ ∃ u blk', oneOf vs = .tup [u, I (runE x l to)] ∧ WRep w (runX x l to) blk' ∧ Cx B0 W S' (.sl u 2 (fis (runL x l to)) :: (E ++ (blk' ++ R))) ro := by
    intro S u e blk' L he hL h' H
    refine wp_row H 2 rfl rfl ?_
    refine wp_row H 1 rfl rfl ?_
    refine wp_ret ⟨rfl, u, blk', by rw [he]; rfl, h', ?_⟩
    rw [hL]
    exact ((H.dropAt 1).dropAt 1).tl
  unfold Tryz.a95x13 
  refine wp_call (wpC_mono (none_ok (E := .obj q (.row [I 0]) :: .obj p (.row [Ns]) :: E) h H) fun u S1 ⟨hu, H⟩ => ?_)
  subst hu
  try(refine zz ?_;(repeat constructor);intro _)
  refine wp_load0 (cs := [v]) H (by repeat (first | exact List.Mem.head _ | apply List.Mem.tail)) rfl ?_
  refine wp_callV H (Tsk.check_ok (l := l) (H.roSl (List.mem_cons_of_mem _ hv))) fun S4 H => ?_
  refine wp_call (wpC_mono (may_ok (E := .obj q (.row [I 0]) :: .obj p (.row [Ns]) :: E) (to := to) h H) fun u S1 ⟨hu, H⟩ => ?_)
  subst hu
  unfold Tryz.a95x12 
  refine wp_two H rfl rfl rfl rfl fun u S5 H => ?_
  refine wp_callV H (orE_ok (l := [tchk l, mayE x to]) (H.roSl (by repeat (first | exact List.Mem.head _ | apply List.Mem.tail))) (by simp)) fun S6 H => ?_
  replace H := H.tl
  refine wp_neq (fun hne => ?_) (fun hz => ?_)
  · try(refine zz ?_;(repeat constructor);intro _)
    refine wp_set1 (c := [Ns]) (j := 0) (v := Ns) H 1 rfl (by simp) rfl rfl fun S7 H => ?_
    unfold Tryz.a95x0 
    refine wp_set1 (c := [I 0]) (j := 0) (v := I (orI [tchk l, mayE x to])) H 0 rfl (by simp) rfl rfl fun S8 H => ?_
    refine wp_ret ⟨.inr rfl, fin _ Ns _ blk [] (by unfold runE; rw [if_pos hne]) (by unfold runL; rw [if_pos hne]) (by unfold runX; rw [if_pos hne]; exact h) (H.addNil 2)⟩
  · try(refine zz ?_;(repeat constructor);intro _)
    have hc : tchk l = 0 ∧ mayE x to = 0 := by
      unfold orI orI orI at hz
      split at hz
      · next h1 => exact absurd hz h1
      · next h1 =>
        split at hz
        · next h2 => exact absurd hz h2
        · next h2 => exact ⟨by simpa using h1, by simpa using h2⟩
    have hto : 0 ≤ to ∧ to ≤ 1099511627776 ∧ ¬ to < x.now := by
      have hz := hc.2
      unfold mayE at hz
      split at hz
      · next h1 =>
        split at hz
        · cases hz
        · next h2 => exact ⟨h1.1, h1.2, h2⟩
      · cases hz
    have hlen := Tsk.tchk_len hc.1
    refine wp_alloc H fun po S7 H => ?_
    unfold Tryz.a95x11 
    refine wp_call (wpC_mono (copyW_ok (E := .obj po (.row [Ns]) :: .obj q (.row [I 0]) :: .obj p (.row [Ns]) :: E) h H) fun r S8 ⟨w', blk2, hr, h2, H⟩ => ?_)
    subst hr
    refine wp_alloc H fun pt S9 H => ?_
    refine wp_set1 (c := [Np]) (j := 0) (v := .ptr w' 0) H 0 rfl (by simp) rfl rfl fun S10 H => ?_
    refine wp_row (c := [.ptr w' 0]) (j := 0) H 0 rfl rfl ?_
    refine wp_call (wpC_fn (b := Tryz.a145) rfl rfl ?_)
    rw [Tryz.u145]
    refine wp_box (x := .ptr w' 0) H rfl fun b1 S11 H => ?_
    refine wp_box (x := I to) H rfl fun b2 S12 H => ?_
    refine wp_ret ⟨rfl, ?_⟩
    have H0 := Cx.addNil H 2
    let Z : List Own := E ++ (blk ++ R)
    let EE : AV → List Fi → Int → List Own := fun u out e => [.sl u 2 (fis out), .obj pt (.row [.ptr w' 0]), .obj po (.row [u]), .obj q (.row [I e]), .obj p (.row [Ns])]
    have H1 : Cx B0 W S12 ([] ++ (EE Ns [] 0 ++ (blk2 ++ Z))) (.pt b2 0 [I to] :: .pt b1 0 [.ptr w' 0] :: .pt bl 0 [v] :: ro) :=
      H0.perm (List.Perm.cons _ (List.Perm.cons _ (List.perm_append_comm_assoc blk2 [.obj po (.row [Ns]), .obj q (.row [I 0]), .obj p (.row [Ns])] Z)))
    unfold Tryz.a95x8 
    refine wp_bind (wp_rngDue (w := w') (bx := b1) (bt := b2) (to := to) (by repeat (first | exact List.Mem.head _ | apply List.Mem.tail)) (by repeat (first | exact List.Mem.head _ | apply List.Mem.tail))
      (fun n x' E' R' => ∃ u out, E' = EE u out 0 ∧ R' = Z ∧ n + out.length = 4096 ∧ x'.now = x.now ∧ runN l to (n + 1) x' out = runN l to 4097 x [])
      (fun t x' E' R' => t = .ret ∧ runN l to 4097 x [] = none ∧ ∃ u out, E' = EE u out 4 ∧ R' = Z) ?_ (n := 4096) ⟨Ns, [], rfl, rfl, rfl, rfl, rfl⟩ h2 H1 ?_ ?_)
    · rintro ly n x' f L' E' R' ho hL hle ⟨u, out, rfl, rfl, hn, hnow, hrun⟩ E0 blk' S13 ro' hro h' H5
      refine wp_round2 (x := I (f.id : Int)) (y := I (f.tm : Int)) H5 fun qf S14 H6 => ?_
      unfold Tryz.a95x7 
      refine wp_bind ?_
      refine wp_row (c := [u]) (j := 0) H6 (E0.length + 3) (app_get rfl) rfl ?_
      refine wp_leno H6 (E0.length + 1) (app_get rfl) ?_
      rw [fis_len]
      have hrun2 : runN l to (n + 1) x' out = if n = 0 then none else runN l to n (again l f ⟨x'.now, L'⟩) (out ++ [f]) := by
        conv => lhs; unfold runN
        rw [hL]
        simp only [hle, if_true]
      refine wp_eql (fun hfull => ?_) (fun hfull => ?_)
      · -- too many
        unfold Tryz.a95x6 
        try(refine zz ?_;(repeat constructor);intro _)
        have hn0 : n = 0 := by omega
        rw [hrun2, if_pos hn0] at hrun
        refine wp_set1 (c := [Ns]) (j := 0) (v := Ns) H6 (E0.length + 5) (app_get rfl) (by simp) rfl rfl fun S15 H7 => ?_
        rw [app_set] at H7
        refine wp_set1 (c := [I 0]) (j := 0) (v := I 4) H7 (E0.length + 4) (app_get rfl) (by simp) rfl rfl fun S16 H8 => ?_
        rw [app_set] at H8
        refine wp_ret ⟨0, ⟨x'.now, L'⟩, EE u out 4, Z, blk', h', H8.tl, .inr ⟨by simp, rfl, hrun.symm, u, out, rfl, rfl⟩⟩
      · unfold Tryz.a95x6 
        try(refine zz ?_;(repeat constructor);intro _)
        have hn0 : n ≠ 0 := by omega
        rw [hrun2, if_neg hn0] at hrun
        refine wp_row (c := [u]) (j := 0) H6 (E0.length + 3) (app_get rfl) rfl ?_
        refine wp_loada (n := 2) (id := qf) (off := 0) (cs := f.cs) H6 (by repeat (first | exact List.Mem.head _ | apply List.Mem.tail)) (Nat.le_refl _) ?_
        refine wp_push (L := fis out) (x := .agg f.cs) H6 (E0.length + 1) (app_get rfl) rfl rfl rfl (by rw [fis_len]; unfold maxBytes; omega) (by rw [fis_len]; unfold maxLenN; omega) fun u1 S15 H7 => ?_
        rw [app_set] at H7
        have e7 : fis out ++ [(AV.agg f.cs).cells] = fis (out ++ [f]) := by rw [fis_app]; rfl
        rw [e7] at H7
        have hs : slW S15 u1 2 (fis (out ++ [f])) := H7.oh _ (List.mem_append_right _ (List.Mem.tail _ (List.Mem.head _)))
        unfold Tryz.a95x5 
        refine wp_set1 (c := [u]) (j := 0) H7 (E0.length + 3) (app_get rfl) (by simp) (slW_one hs).1 (slW_one hs).2 fun S16 H8 => ?_
        rw [app_set] at H8
        have H8 : Cx B0 W S16 (E0 ++ Own.obj ly (.loop .busy none 1 (fun v17 => .op (.alloc [(I 0), (I 0)]) fun v18 => .op (.store 2 v18 (nth v17 1)) fun v19 => .start (nth v17 0) (Tryz.a95x7 (.ptr bl 0) (.ptr p 0) (.ptr q 0) (.ptr po 0) (.ptr pt 0) v18))) :: (EE u1 (out ++ [f]) 0 ++ (blk' ++ Z))) (.pt qf 0 [I (f.id : Int), I (f.tm : Int)] :: ro') := H8
        try(refine zz ?_;(repeat constructor);intro _)
        refine wp_load1 (id := qf) (j := 0) H8 (cs := f.cs) (by repeat (first | exact List.Mem.head _ | apply List.Mem.tail)) rfl ?_
        have hbl : Fct.pt bl 0 [v] ∈ ro' := hro _ (by repeat (first | exact List.Mem.head _ | apply List.Mem.tail))
        have hvr : Fct.sl v 4 (tks l) ∈ ro' := hro _ (List.mem_cons_of_mem _ (List.mem_cons_of_mem _ (List.mem_cons_of_mem _ hv)))
        refine wp_load0 (cs := [v]) H8 (List.mem_cons_of_mem _ hbl) rfl ?_
        refine wp_len H8 (List.mem_cons_of_mem _ hvr) ?_
        rw [Tsk.tks_len]
        unfold Tryz.a95x4 
        have done : ∀ (S : AH) (y : Wl) (blk4 : List Own), again l f ⟨x'.now, L'⟩ = y → WRep w' y blk4 →
            Cx B0 W S (E0 ++ Own.obj ly (.loop .busy none 1 (fun v17 => .op (.alloc [(I 0), (I 0)]) fun v18 => .op (.store 2 v18 (nth v17 1)) fun v19 => .start (nth v17 0) (Tryz.a95x7 (.ptr bl 0) (.ptr p 0) (.ptr q 0) (.ptr po 0) (.ptr pt 0) v18))) :: (EE u1 (out ++ [f]) 0 ++ (blk4 ++ Z))) (.pt qf 0 [I (f.id : Int), I (f.tm : Int)] :: ro') → y.now = x.now →
            wp EM (.ret .normal []) S fun t _ S' => ∃ n' x' E' R' blk', WRep w' x' blk' ∧ Cx B0 W S' (E0 ++ Own.obj ly (.loop .busy none 1 (fun v17 => .op (.alloc [(I 0), (I 0)]) fun v18 => .op (.store 2 v18 (nth v17 1)) fun v19 => .start (nth v17 0) (Tryz.a95x7 (.ptr bl 0) (.ptr p 0) (.ptr q 0) (.ptr po 0) (.ptr pt 0) v18))) :: (E' ++ (blk' ++ R'))) ro' ∧
              ((t = .normal ∧ n' < n ∧ ∃ u out, E' = EE u out 0 ∧ R' = Z ∧ n' + out.length = 4096 ∧ x'.now = x.now ∧ runN l to (n' + 1) x' out = runN l to 4097 x []) ∨ (t ≠ .normal ∧ t = .ret ∧ runN l to 4097 x [] = none ∧ ∃ u out, E' = EE u out 4 ∧ R' = Z)) := by
          intro S y blk4 hy h4 H4 hnow4
          refine wp_ret ⟨n - 1, y, EE u1 (out ++ [f]) 0, Z, blk4, h4, H4.tl, .inl ⟨rfl, by omega, u1, out ++ [f], rfl, rfl, by simp; omega, hnow4, ?_⟩⟩
          rw [show n - 1 + 1 = n by omega, ← hy]; exact hrun
        refine wp_geq (fun hge => ?_) (fun hlt => ?_)
        · refine wp_ite_t (wp_ret ?_)
          show wp EM _ _ _
          refine done _ ⟨x'.now, L'⟩ blk' ?_ h' H8 hnow
          unfold again
          rw [List.getElem?_eq_none (by omega)]
        · have hlt : f.id < l.length := by omega
          refine wp_ite_f ?_
          refine wp_load0 (cs := [v]) H8 (List.mem_cons_of_mem _ hbl) rfl ?_
          try(refine zz ?_;(repeat constructor);intro _)
          refine wp_load1 (id := qf) (j := 0) H8 (cs := f.cs) (by repeat (first | exact List.Mem.head _ | apply List.Mem.tail)) rfl ?_
          refine wp_saddr (i := f.id) H8 (List.mem_cons_of_mem _ hvr) (Tsk.tks_get hlt) fun qt qto H9 => ?_
          unfold Tryz.a95x3 
          refine wp_loada (n := 4) H9 (cs := l[f.id].cs) (by repeat (first | exact List.Mem.head _ | apply List.Mem.tail)) (Nat.le_refl _) ?_
          replace H9 := H9.tl
          try(refine zz ?_;(repeat constructor);intro _)
          refine wp_load1 (id := qf) (j := 1) H9 (cs := f.cs) (by repeat (first | exact List.Mem.head _ | apply List.Mem.tail)) rfl ?_
          have hftm := ho.le f (by rw [hL]; simp)
          refine wp_add64 (by omega) (by omega) ?_
          refine wp_callV H9 (Tsk.next_ok (x := l[f.id]) (now := (f.tm : Int) + 1)) fun S17 H10 => ?_
          have hag : again l f ⟨x'.now, L'⟩ = match nxt l[f.id] ((f.tm : Int) + 1) with | some a => ⟨x'.now, ins ⟨f.id, a⟩ L'⟩ | none => ⟨x'.now, L'⟩ := by
            unfold again
            rw [List.getElem?_eq_getElem hlt]
          rcases nxt_ok l[f.id] ((f.tm : Int) + 1) with ⟨t, hn1, ht, hge1, hle1⟩ | ⟨hn1, ht⟩
          · rw [ht]
            try(refine zz ?_;(repeat constructor);intro _)
            unfold Tryz.a95x2 
            try(refine zz ?_;(repeat constructor);intro _)
            refine wp_bind (wp_ite_t ?_)
            unfold Tryz.a95x1 
            refine wp_row (c := [.ptr w' 0]) (j := 0) H10 (E0.length + 2) (app_get rfl) rfl ?_
            try(refine zz ?_;(repeat constructor);intro _)
            refine wp_load1 (id := qf) (j := 0) H10 (cs := f.cs) (by repeat (first | exact List.Mem.head _ | apply List.Mem.tail)) rfl ?_
            refine wp_op (v := .agg (Fi.mk f.id t).cs) rfl ?_
            have e11 : E0 ++ Own.obj ly (.loop .busy none 1 (fun v17 => .op (.alloc [(I 0), (I 0)]) fun v18 => .op (.store 2 v18 (nth v17 1)) fun v19 => .start (nth v17 0) (Tryz.a95x7 (.ptr bl 0) (.ptr p 0) (.ptr q 0) (.ptr po 0) (.ptr pt 0) v18))) :: (EE u1 (out ++ [f]) 0 ++ (blk' ++ Z)) =
                (E0 ++ Own.obj ly (.loop .busy none 1 (fun v17 => .op (.alloc [(I 0), (I 0)]) fun v18 => .op (.store 2 v18 (nth v17 1)) fun v19 => .start (nth v17 0) (Tryz.a95x7 (.ptr bl 0) (.ptr p 0) (.ptr q 0) (.ptr po 0) (.ptr pt 0) v18))) :: EE u1 (out ++ [f]) 0) ++ (blk' ++ Z) := by simp
            rw [e11] at H10
            have hfm : f ∈ x'.L := by rw [hL]; simp
            refine wp_call (wpC_mono (putW (f := ⟨f.id, t⟩) h' H10 (fun g hg => notin_tail ho hL g hg) (by have := ho.ge f hfm; show x'.now ≤ t; omega) hle1 (ho.id f hfm)) fun r S18 ⟨blk5, h5, H11⟩ => ?_)
            have e12 : (E0 ++ Own.obj ly (.loop .busy none 1 (fun v17 => .op (.alloc [(I 0), (I 0)]) fun v18 => .op (.store 2 v18 (nth v17 1)) fun v19 => .start (nth v17 0) (Tryz.a95x7 (.ptr bl 0) (.ptr p 0) (.ptr q 0) (.ptr po 0) (.ptr pt 0) v18))) :: EE u1 (out ++ [f]) 0) ++ (blk5 ++ Z) =
                E0 ++ Own.obj ly (.loop .busy none 1 (fun v17 => .op (.alloc [(I 0), (I 0)]) fun v18 => .op (.store 2 v18 (nth v17 1)) fun v19 => .start (nth v17 0) (Tryz.a95x7 (.ptr bl 0) (.ptr p 0) (.ptr q 0) (.ptr po 0) (.ptr pt 0) v18))) :: (EE u1 (out ++ [f]) 0 ++ (blk5 ++ Z)) := by simp
            rw [e12] at H11
            refine wp_ret ?_
            show wp EM _ _ _
            refine wp_ret ?_
            show wp EM _ _ _
            exact done _ _ blk5 (by rw [hag, hn1]) h5 H11 hnow
          · rw [ht]
            try(refine zz ?_;(repeat constructor);intro _)
            unfold Tryz.a95x2 
            try(refine zz ?_;(repeat constructor);intro _)
            refine wp_bind (wp_ite_f (wp_ret ?_))
            show wp EM _ _ _
            refine wp_ret ?_
            show wp EM _ _ _
            exact done _ _ blk' (by rw [hag, hn1]) h' H10 hnow
    · rintro S13 n' x' E' R' blk' ⟨u, out, rfl, rfl, hn, hnow, hrun⟩ hd h' H5
      have hend : runN l to (n' + 1) x' out = some (x', out) := by
        unfold runN
        cases hL : x'.L with
        | nil => rfl
        | cons f L' =>
          have := hd f (by rw [hL]; simp)
          simp only
          rw [if_neg (by omega)]
      rw [hend] at hrun
      refine wp_ret ?_
      show wp EM _ _ _
      unfold Tryz.a95x10 
      have H6 : Cx B0 W S13 (EE u out 0 ++ (blk' ++ Z)) (.pt b2 0 [I to] :: .pt b1 0 [.ptr w' 0] :: .pt bl 0 [v] :: ro) := H5
      refine wp_row (c := [.ptr w' 0]) (j := 0) H6 1 rfl rfl ?_
      obtain ⟨t, rfl⟩ : ∃ t : Nat, to = (t : Int) := ⟨to.toNat, by omega⟩
      refine wp_call (wpC_mono (move_ok (to := t) h' H6 (by omega) (fun f hf => by have := hd f hf; omega)) fun r S14 ⟨blk6, h6, H7⟩ => ?_)
      refine wp_row (c := [.ptr w' 0]) (j := 0) H7 1 rfl rfl ?_
      try(refine zz ?_;(repeat constructor);intro _)
      obtain ⟨ho6, m6, vs6, Mp6, hM6, rfl⟩ := h6
      have hrow := H7.oh _ (List.mem_of_getElem? (wO_row (E := EE u out 0) (R := Z)))
      refine wp_op (e_loadn (row_cells hrow) (by rw [wrow_len]; omega)) ?_
      rw [List.drop_zero, List.take_of_length_le (by rw [wrow_len]; omega)]
      try(refine zz ?_;(repeat constructor);intro _)
      unfold Tryz.a95x9 
      obtain ⟨ho, m, vs, Mp, hM, rfl⟩ := h
      have hidx : (EE u out 0 ++ (wOwn w' m6 (wrow t m6 vs6) Mp6 vs6 (Wl.slot ⟨t, x'.L⟩) ++ (E ++ (wOwn w m (wrow x.now m vs) Mp vs x.slot ++ R))))[(EE u out 0).length + ((wOwn w' m6 (wrow t m6 vs6) Mp6 vs6 (Wl.slot ⟨t, x'.L⟩)).length + (E.length + 0))]? = some (.obj w (.row (wrow x.now m vs))) := app_get (app_get wO_row)
      refine wp_store (n := 179) (c := wrow x.now m vs) (off := 0) (v := .agg (wrow t m6 vs6)) H7 _ hidx rfl (by show (wrow t m6 vs6).length = 179; exact wrow_len ..) (by rw [wrow_len]; omega) fun S15 H8 => ?_
      have e8 : setRange (wrow x.now m vs) 0 (AV.agg (wrow t m6 vs6)).cells = wrow t m6 vs6 := by
        show setRange (wrow x.now m vs) 0 (wrow t m6 vs6) = _
        rw [setRange_eq, wrow_len, List.take_zero, List.nil_append, Nat.zero_add, List.drop_eq_nil_of_le (by rw [wrow_len]; omega), List.append_nil]
      rw [e8] at H8
      have e9 : (EE u out 0 ++ (wOwn w' m6 (wrow t m6 vs6) Mp6 vs6 (Wl.slot ⟨t, x'.L⟩) ++ (E ++ (wOwn w m (wrow x.now m vs) Mp vs x.slot ++ R)))).set ((EE u out 0).length + ((wOwn w' m6 (wrow t m6 vs6) Mp6 vs6 (Wl.slot ⟨t, x'.L⟩)).length + (E.length + 0))) (.obj w (.row (wrow t m6 vs6))) =
          EE u out 0 ++ (wOwn w' m6 (wrow t m6 vs6) Mp6 vs6 (Wl.slot ⟨t, x'.L⟩) ++ (E ++ (wOwn w m (wrow t m6 vs6) Mp vs x.slot ++ R))) := by
        rw [app_set, app_set, wO_setRow]
      rw [e9] at H8
      have H9 : Cx B0 W S15 (EE u out 0 ++ (E ++ (wOwn w m6 (wrow t m6 vs6) Mp6 vs6 (Wl.slot ⟨t, x'.L⟩) ++ R))) (.pt b2 0 [I (t : Int)] :: .pt b1 0 [.ptr w' 0] :: .pt bl 0 [v] :: ro) := by
        let slots := (List.range 176).map fun k => Own.sl (vs6 k) 2 (fis (Wl.slot ⟨t, x'.L⟩ k))
        have s1 : (EE u out 0 ++ ((Own.obj m6 (.map (ment Mp6)) :: slots) ++ (E ++ ([Own.obj w (.row (wrow t m6 vs6))] ++ R)))).Sublist (EE u out 0 ++ (wOwn w' m6 (wrow t m6 vs6) Mp6 vs6 (Wl.slot ⟨t, x'.L⟩) ++ (E ++ (wOwn w m (wrow t m6 vs6) Mp vs x.slot ++ R)))) := by
          refine List.Sublist.append (List.Sublist.refl _) (List.Sublist.append (List.sublist_cons_self _ _) (List.Sublist.append (List.Sublist.refl _) (List.Sublist.append ?_ (List.Sublist.refl _))))
          exact List.Sublist.cons_cons _ (List.nil_sublist _)
        refine (H8.dropOwn s1).perm (List.Perm.append_left _ ?_)
        refine (List.perm_append_comm_assoc _ _ _).trans (List.Perm.append_left _ ?_)
        have p1 : ((Own.obj m6 (.map (ment Mp6)) :: slots) ++ ([Own.obj w (.row (wrow t m6 vs6))] ++ R)).Perm ([Own.obj w (.row (wrow t m6 vs6))] ++ ((Own.obj m6 (.map (ment Mp6)) :: slots) ++ R)) := List.perm_append_comm_assoc _ _ _
        exact p1
      refine wp_row (c := [u]) (j := 0) H9 2 rfl rfl ?_
      have hsu : slOk S15 u 2 (fis out) := ownSl_ok (H9.oh _ (List.Mem.head _))
      refine wp_set1 (c := [Ns]) (j := 0) (v := u) H9 4 rfl (by simp) (slOk_odd1 hsu).1 (slOk_odd1 hsu).2 fun S16 H10 => ?_
      refine wp_set1 (c := [I 0]) (j := 0) (v := I 0) H10 3 rfl (by simp) rfl rfl fun S17 H11 => ?_
      have H12 := ((H11.dropAt 1).dropAt 1).dropRo (ro' := .pt bl 0 [v] :: ro) (fun φ h => List.mem_cons_of_mem _ (List.mem_cons_of_mem _ h))
      refine wp_ret ⟨.inr rfl, fin _ u 0 _ out ?_ ?_ ⟨?_, m6, vs6, Mp6, ?_, rfl⟩ ?_⟩
      · unfold runE; rw [if_neg (by simpa using hz), ← hrun]
      · unfold runL; rw [if_neg (by simpa using hz), ← hrun]
      · unfold runX; rw [if_neg (by simpa using hz), ← hrun]; exact ho6
      · unfold runX; rw [if_neg (by simpa using hz), ← hrun]; exact hM6
      · unfold runX; rw [if_neg (by simpa using hz), ← hrun]; exact H12
    · rintro t S13 x' E' R' blk' ht ⟨rfl, hnone, u, out, rfl, rfl⟩ h' H5
      refine ⟨.inr rfl, fin _ Ns 4 blk [] (by unfold runE; rw [if_neg (by simpa using hz), hnone]) (by unfold runL; rw [if_neg (by simpa using hz), hnone]) (by unfold runX; rw [if_neg (by simpa using hz), hnone]; exact h) ?_⟩
      have H6 : Cx B0 W S13 (EE u out 4 ++ (blk' ++ Z)) (.pt b2 0 [I to] :: .pt b1 0 [.ptr w' 0] :: .pt bl 0 [v] :: ro) := H5
      have s1 : ([Own.obj q (.row [I 4]), Own.obj p (.row [Ns])] ++ Z).Sublist (EE u out 4 ++ (blk' ++ Z)) := by
        refine List.Sublist.append ?_ (List.sublist_append_right _ _)
        exact List.Sublist.cons _ (List.Sublist.cons _ (List.Sublist.cons _ (List.Sublist.refl _)))
      exact ((H6.dropOwn s1).addNil 2).dropRo (fun φ h => List.mem_cons_of_mem _ (List.mem_cons_of_mem _ h))
end
end Go.Abs
set_option linter.unusedSectionVars false
namespace Go.Abs
variable [Ek]
open Go.Proofs
set_option maxRecDepth 1000000
set_option linter.unusedVariables false
/-! ### PlayKnown, up to its last moves: one run -/
noncomputable def q3x0 (v67 : AV) (v68 : AV) (v69 : AV) (v70 : AV) : AC := .gop v67 true (.bslice 3 2 [(I 0), (I 0), (I 0)] [(0, 3, v69), (3, 3, v70)]) fun v71 => .gop v67 true (.bslice 1 2 [(I 0)] [(0, 1, (I 3)), (1, 1, (I 4))]) fun v72 => .ret .normal [v67, v68, v71, v72]
noncomputable def q3x1 (v1 : AV) (v62 : AV) (v63 : AV) (v64 : AV) : AC := .op (.pick v63 v64 (B false)) fun v65 => .gop v65 true (.mv v62) fun v66 => .op (.pick v65 v66 (B false)) fun v67 => .gop v67 true (.mv v1) fun v68 => .gop v67 true (.build [(I 0), (I 0), (I 0)] [(0, 1, (I 8)), (2, 1, (I 1073741825))]) fun v69 => .gop v67 true (.build [(I 0), (I 0), (I 0)] [(0, 1, (I 8)), (2, 1, (I 100000))]) fun v70 => (q3x0 v67 v68 v69 v70)
noncomputable def q3x2 (v1 : AV) (v55 : AV) (v56 : AV) (v57 : AV) (v58 : AV) : AC := .op (.build [(I 0), (I 0), (I 0)] [(0, 1, (I 3)), (1, 1, (I 2))]) fun v59 => .op (.bslice 3 4 [(I 0), (I 0), (I 0)] [(0, 3, v56), (3, 3, v57), (6, 3, v58), (9, 3, v59)]) fun v60 => .op (.bslice 1 4 [(I 0)] [(0, 1, (I 0)), (1, 1, (I 14)), (2, 1, (I 15)), (3, 1, (I 3))]) fun v61 => .call (.fn (.func 21) [] []) [v1, v60, v61] fun v62 => .call (.fn (.func 22) [] []) [] fun v63 => .gop v63 true (.mv v55) fun v64 => (q3x1 v1 v62 v63 v64)
noncomputable def q3x3 (v1 : AV) (v52 : AV) : AC := .gop v52 true (.mv v1) fun v53 => .gcall v52 true (.fn (.func 20) [] []) [v53] fun v54 => .op (.pick v52 v54 (B false)) fun v55 => .op (.build [(I 0), (I 0), (I 0)] [(0, 1, (I 3))]) fun v56 => .op (.build [(I 0), (I 0), (I 0)] [(0, 1, (I 4))]) fun v57 => .op (.build [(I 0), (I 0), (I 0)] [(0, 1, (I 7)), (1, 1, (I 1)), (2, 1, (I 1))]) fun v58 => (q3x2 v1 v55 v56 v57 v58)
noncomputable def q3x4 (v1 : AV) (v43 : AV) (v46 : AV) : AC := .gop v43 true (.load 1 false v46) fun v47 => .gop v43 true (.bin .eql v47 (I 0)) fun v48 => .op (.pick v43 v48 (B false)) fun v49 => .gop v49 true (.mv v1) fun v50 => .gcall v49 true (.fn (.func 19) [] []) [v50] fun v51 => .op (.pick v49 v51 (B false)) fun v52 => (q3x3 v1 v52)
noncomputable def q3x5 (v1 : AV) (v19 : AV) (v37 : AV) (v40 : AV) : AC := .gop v37 true (.load 1 false v40) fun v41 => .gop v37 true (.bin .eql v41 (I 4)) fun v42 => .op (.pick v37 v42 (B false)) fun v43 => .gop v43 true (.mv v19) fun v44 => .gop v43 true (.saddr 4 v44 (I 0)) fun v45 => .gop v43 true (.faddr 2 v45) fun v46 => (q3x4 v1 v43 v46)
noncomputable def q3x6 (v1 : AV) (v19 : AV) (v31 : AV) (v34 : AV) : AC := .gop v31 true (.load 1 false v34) fun v35 => .gop v31 true (.bin .eql v35 (I 0)) fun v36 => .op (.pick v31 v36 (B false)) fun v37 => .gop v37 true (.mv v19) fun v38 => .gop v37 true (.saddr 4 v38 (I 0)) fun v39 => .gop v37 true (.faddr 1 v39) fun v40 => (q3x5 v1 v19 v37 v40)
noncomputable def q3x7 (v1 : AV) (v19 : AV) (v27 : AV) (v28 : AV) : AC := .gop v27 true (.len false v28) fun v29 => .gop v27 true (.bin .eql v29 (I 1)) fun v30 => .op (.pick v27 v30 (B false)) fun v31 => .gop v31 true (.mv v19) fun v32 => .gop v31 true (.saddr 4 v32 (I 0)) fun v33 => .gop v31 true (.faddr 0 v33) fun v34 => (q3x6 v1 v19 v31 v34)
noncomputable def q3x8 (v1 : AV) (v17 : AV) (v19 : AV) (v20 : AV) (v22 : AV) : AC := .op (.pick v20 v22 (B false)) fun v23 => .gop v23 true (.faddr 2 v17) fun v24 => .gop v23 true (.load 1 false v24) fun v25 => .gop v23 true (.bin .eql v25 (I 0)) fun v26 => .op (.pick v23 v26 (B false)) fun v27 => .gop v27 true (.mv v19) fun v28 => (q3x7 v1 v19 v27 v28)
noncomputable def q3x9 (v1 : AV) (v15 : AV) (v16 : AV) : AC := .op (.alloc [(I 0), (B false), (I 0), (I 0), (U 0)]) fun v17 => .op (.store 5 v17 v15) fun v18 => .call (.fn (.func 18) [] []) [v1] fun v19 => .op (.bin .eql v16 (I 0)) fun v20 => .gop v20 true (.faddr 1 v17) fun v21 => .gop v20 true (.load 1 false v21) fun v22 => (q3x8 v1 v17 v19 v20 v22)
noncomputable def q3x10 (v1 : AV) (v12 : AV) : AC := .ite v12 (.ret .ret [(B false)]) (.op (.build [(I 0), (I 0), (I 0)] [(0, 1, (I 9))]) fun v13 => .call (.fn (.func 7) [] []) [v1, v13] fun v14 => .op (.extract 0 v14) fun v15 => .op (.extract 1 v14) fun v16 => (q3x9 v1 v15 v16))
noncomputable def q3x11 (v1 : AV) (v2 : AV) (v4 : AV) (v6 : AV) : AC := .gcall v2 false (.fn (.func 17) [] []) [v4, v6] fun v7 => .gop v2 false (.un .not v7) fun v8 => .op (.pick v2 (B true) v8) fun v9 => .gop v9 false (.mv v1) fun v10 => .gcall v9 false (.fn (.func 19) [] []) [v10] fun v11 => .op (.pick v9 (B true) v11) fun v12 => (q3x10 v1 v12)
noncomputable def q3 : List AV → AC := fun v0 => .call (.fn (.func 16) [] []) [] fun v1 => .op (.eq 24 false v1 Np) fun v2 => .gop v2 false (.mv v1) fun v3 => .gcall v2 false (.fn (.func 18) [] []) [v3] fun v4 => .gop v2 false (.build [(I 0), (I 0), (I 0), (U 0)] [(1, 1, (I 2)), (3, 1, (U 360287970189705216))]) fun v5 => .gop v2 false (.bslice 4 1 [(I 0), (I 0), (I 0), (U 0)] [(0, 4, v5)]) fun v6 => (q3x11 v1 v2 v4 v6)


theorem pre_ret {k : List AV → AC} {x : AC} {vs : List AV} (h : x = k vs) : Pre k x (.ret .normal vs) := by rw [h]; exact Pre.ret vs
noncomputable def k3 : List AV → AC := fun vs => .gcall (nth vs 0) true (.fn (.func 21) [] []) [nth vs 1, nth vs 2, nth vs 3] fun v73 => .op (.pick (nth vs 0) v73 (B false)) fun v74 => .ret .ret [v74]
theorem pre3 {ar : List AV} : Pre k3 (Tryz.a4 ar) (q3 ar) := by
  unfold Tryz.a4 Tryz.a4x11 Tryz.a4x10 Tryz.a4x9 Tryz.a4x8 Tryz.a4x7 Tryz.a4x6 Tryz.a4x5 Tryz.a4x4 Tryz.a4x3 Tryz.a4x2 Tryz.a4x1 Tryz.a4x0 q3 q3x11 q3x10 q3x9 q3x8 q3x7 q3x6 q3x5 q3x4 q3x3 q3x2 q3x1 q3x0
  repeat' (first
    | exact Pre.stop _
    | (refine Pre.op ?_; intro v)
    | (refine Pre.gop ?_; intro v)
    | (refine Pre.call ?_; intro v)
    | (refine Pre.gcall ?_; intro v)
    | refine Pre.chk ?_
    | refine Pre.gchk ?_
    | refine Pre.ite ?_ ?_
    | exact pre_ret rfl
    | (refine Pre.bind ?_; intro vs))
noncomputable def holdsR (S : AH) : List (Nat × List AV) → Bool := List.rec (motive := fun _ => Bool) true fun p _ ih => match S.row? p.1 with
  | some c => beqs c p.2 && ih
  | none => false
theorem holdsR_mem {S : AH} : ∀ {l : List (Nat × List AV)}, holdsR S l = true → ∀ p ∈ l, S.get p.1 = some (.row p.2)
  | [], _, _, h => by cases h
  | q :: r, h, p, hp => by
    have h' : (match S.row? q.1 with
      | some c => beqs c q.2 && holdsR S r
      | none => false) = true := h
    split at h'
    · next c hc =>
      rw [Bool.and_eq_true] at h'
      have e := beqs_eq h'.1
      subst e
      rcases List.mem_cons.1 hp with rfl | hp
      · unfold AH.row? at hc
        split at hc
        · next o ho =>
          cases o with
          | row c' => cases hc; exact ho
          | _ => cases hc
        · cases hc
      · exact holdsR_mem h'.2 p hp
    · cases h'
noncomputable def rp (v : AV) (n : Nat) (r : List AV) : List AV := Nat.rec (motive := fun _ => List AV) r (fun _ ih => v :: ih) n
noncomputable def world : List AV := [(I 17), (I 16), (I 1), (I 0), (I 1), (I 4), (I 5), (I 9), (I 9), (I 10), (I 11), (I 2), (I 13), (I 37), (I 2), (I 39), (I 42), (I 45), (I 46), (I 3), (I 49), (I 2), (I 2), (I 57), (I 59), (I 2), (I 61), (I 63), (.op 20 0 2 2 4), (.ptr 29 0), (.ptr 24 0), (.ptr 317 0), (.ptr 358 0), (.map 25), (.sl 590 0 0 0), (.op 4971 0 39 39 9), (I 20), (.fn (.func 48) [] [(.ptr 27 0)])]
noncomputable def wheelRow : List AV := ((I 3) :: (B true) :: (rp Ns 13 ((.op 562 0 1 1 2) :: (rp Ns 162 [(.map 414)]))))
noncomputable def tasks2 : List AV := [(I 1), (I 5), (I 10), (I 3), (I 2), (I 2), (I 0), (I 0)]
def mapIs : Option AO → Bool
  | some (.map [(.int .i64 0, .agg [.sc (.int .i64 0), .sc (.int .i64 13)])]) => true
  | _ => false
noncomputable def ends3 : Out → Bool
  | some (.normal, vs, S') => beqs vs [B true, .ptr 26 0, .sl 5005 0 2 2, .sl 5006 0 2 2] && (Nat.ble 5007 S'.next && (holdsR S' [(26, world), (358, wheelRow), (562, [I 0, I 13]), (20, tasks2), (5005, [I 8, I 0, I 1073741825, I 8, I 0, I 100000]), (5006, [I 3, I 4])] && mapIs (S'.get 414)))
  | _ => false
theorem ran3 : ends3 (run EM.P (callT EM.P EM.tbl EM.kn 4000000) 4000000 (q3 []) ⟨.e, 0⟩) = true := by kernel_rfl
end Go.Abs
set_option linter.unusedSectionVars false
namespace Go.Abs
variable [Ek]
open Go.Proofs
set_option maxRecDepth 1000000
set_option linter.unusedVariables false
open Tsk (Tk tks tchk)
/-! ### where the run stands -/
theorem mapIs_eq {o : Option AO} (h : mapIs o = true) : o = some (.map (ment [(0, .agg [I 0, I 13])])) := by
  unfold mapIs at h
  split at h
  · rfl
  · cases h
theorem ends3_some {r : Out} (h : ends3 r = true) : ∃ S', r = some (.normal, [B true, .ptr 26 0, .sl 5005 0 2 2, .sl 5006 0 2 2], S') ∧ 5007 ≤ S'.next ∧
    (∀ p ∈ [(26, world), (358, wheelRow), (562, [I 0, I 13]), (20, tasks2), (5005, [I 8, I 0, I 1073741825, I 8, I 0, I 100000]), (5006, [I 3, I 4])], S'.get p.1 = some (.row p.2)) ∧ S'.get 414 = some (.map (ment [(0, .agg [I 0, I 13])])) := by
  unfold ends3 at h
  split at h
  · next vs S' =>
    simp only [Bool.and_eq_true] at h
    obtain ⟨h1, h2, h3, h4⟩ := h
    have e := beqs_eq h1
    subst e
    exact ⟨S', rfl, Nat.le_of_ble_eq_true h2, holdsR_mem h3, mapIs_eq h4⟩
  · cases h
def wx : Wl := ⟨3, [⟨0, 13⟩]⟩
def wvs : Nat → AV := fun k => if k = 13 then .op 562 0 1 1 2 else Ns
def tk2 : List Tk := [⟨1, 5, 10, 3⟩, ⟨2, 2, 0, 0⟩]
theorem wx_ok : wx.Ok where
  clk := by decide
  ord := by simp [wx, Ord]
  nd := by simp [wx]
  ge := by simp [wx]
  le := by simp [wx]
  id := by simp [wx]
theorem wheel_eq : wheelRow = wrow 3 414 wvs := by
  kernel_rfl
theorem wx_slot (k : Nat) : wx.slot k = if k = 13 then [⟨0, 13⟩] else [] := by
  unfold Wl.slot wx
  have : spt 3 13 = 13 := by decide +kernel
  by_cases h : k = 13
  · subst h; rw [if_pos rfl]; simp [this]
  · rw [if_neg h]; simp [this]; omega
noncomputable def wblk : List Own := wOwn 358 414 (wrow 3 414 wvs) [(0, .agg [I 0, I 13])] wvs wx.slot
theorem wrep : WRep 358 wx wblk := by
  refine ⟨wx_ok, 414, wvs, [(0, .agg [I 0, I 13])], ⟨by simp, fun k => ?_⟩, rfl⟩
  by_cases h : k = 0
  · subst h; simp [mget, fnd, wx, Fi.cs]
  · have h' : ¬ (0 : Int) = k := fun e => h e.symm
    simp [mget, fnd, wx, h']
theorem run_long : runE wx tk2 100003 = 4 := by
  have : (runE wx tk2 100003 == 4) = true := by decide +kernel
  simpa using this
end Go.Abs
set_option linter.unusedSectionVars false
namespace Go.Abs
variable [Ek]
open Go.Proofs
set_option maxRecDepth 1000000
set_option linter.unusedVariables false
open Tsk (Tk tks tchk)
/-! ### the last moves -/
def zero5 : List AV := [I 0, B false, I 0, I 0, U 0]
section
variable {B0 S : AH} {W : List Nat} {own E R : List Own} {ro : List Fct} {Q : Post} {k : AV → AC} {kc : AC} {blk : List Own}
theorem wp_gchk_s {M : Mach} {g g' : Bool} {o : AOp} {v : AV} (hg : g' = !g) (h : wp M kc S Q) : wp M (.gchk (B g) g' o v kc) S Q := by
  subst hg
  obtain ⟨t, vs, S', ⟨n0, h1⟩, h2⟩ := h
  exact ⟨t, vs, S', ⟨n0, fun n hn => by
    show runGchk M.P (B g) (!g) o v _ S = _
    unfold runGchk
    rw [show gIs (B g) (!g) = some false by cases g <;> rfl]
    exact h1 n hn⟩, h2⟩
theorem wp_gchk_t {M : Mach} {g : Bool} {o : AOp} {v : AV} (h : wp M (.chk o v kc) S Q) : wp M (.gchk (B g) g o v kc) S Q := by
  obtain ⟨t, vs, S', ⟨n0, h1⟩, h2⟩ := h
  exact ⟨t, vs, S', ⟨n0, fun n hn => by
    show runGchk M.P (B g) g o v _ S = _
    unfold runGchk
    rw [show gIs (B g) g = some true by cases g <;> rfl]
    exact h1 n hn⟩, h2⟩
theorem wp_ld (H : Cx B0 W S own ro) {M : Mach} {id o : Nat} {cs : List AV} {v : AV} (hm : Fct.pt id 0 cs ∈ ro) (hj : cs[o]? = some v) (h : wp M (k v) S Q) : wp M (.op (.load 1 false (.ptr id o)) k) S Q := by
  have := wp_load1 (M := M) (k := k) (off := 0) (j := o) H hm hj h
  rwa [show Nat.add 0 o = o from Nat.zero_add o] at this
theorem wp_ck (H : Cx B0 W S own ro) {M : Mach} {id o : Nat} {cs : List AV} {v : AV} (hm : Fct.pt id 0 cs ∈ ro) (hj : cs[o]? = some v) (hb : AV.beq v v = true) (h : wp M kc S Q) : wp M (.chk (.load 1 false (.ptr id o)) v kc) S Q := by
  have := wp_chk1 (M := M) (k := kc) (off := 0) (j := o) H hm hj hb h
  rwa [show Nat.add 0 o = o from Nat.zero_add o] at this
theorem wnone_ok (f26 : Fct.pt 26 0 world ∈ ro) (H : Cx B0 W S own ro) : wpC EM (.fn (.func 25) [] []) [.ptr 26 0] S fun r S' => r = B false ∧ S' = S := by
  refine wpC_fn (b := Tryz.a25) rfl rfl ?_
  rw [Tryz.u25]
  refine wp_op (e_ptrNil (by kernel_rfl)) ?_
  try(refine zz ?_;(repeat constructor);intro _)
  refine wp_ld H f26 (v := .ptr 29 0) rfl ?_
  try(refine zz ?_;(repeat constructor);intro _)
  refine wp_op (e_ptrNil (by kernel_rfl)) ?_
  try(refine zz ?_;(repeat constructor);intro _)
  exact wp_ret ⟨rfl, rfl, rfl⟩
theorem wnow_ok (f26 : Fct.pt 26 0 world ∈ ro) (h : WRep 358 wx blk) (H : Cx B0 W S (E ++ (blk ++ R)) ro) : wpC EM (.fn (.func 9) [] []) [.ptr 26 0] S fun r S' => r = I 3 ∧ Cx B0 W S' (E ++ (blk ++ R)) ro := by
  refine wpC_fn (b := Tryz.a9) rfl rfl ?_
  rw [Tryz.u9]
  refine wp_call (wpC_mono (wnone_ok f26 H) fun r S1 q => ?_)
  obtain ⟨rfl, rfl⟩ := q
  try(refine zz ?_;(repeat constructor);intro _)
  refine wp_ld H f26 (v := .ptr 358 0) rfl ?_
  refine wp_call (wpC_mono (now_ok h H) fun r S2 q => ?_)
  obtain ⟨rfl, H⟩ := q
  exact wp_ret ⟨rfl, rfl, H⟩
theorem tick1_ok (H : Cx B0 W S own ro) : wpC EM (.fn (.func 56) [] []) [.ptr 26 0, .agg [I 8, I 0, I 1073741825]] S fun r S' => r = .tup [.agg zero5, I 3] ∧ Cx B0 W S' own ro := by
  refine wpC_fn (b := Tryz.a56) rfl rfl ?_
  rw [Tryz.u56]
  refine wp_fin ?_
  refine wp_box H rfl fun p S1 H => ?_
  refine wp_alloc H fun q S2 H => ?_
  try(refine zz ?_;(repeat constructor);intro _)
  refine wp_ld (cs := [I 8, I 0, I 1073741825]) H (List.Mem.head _) rfl ?_
  refine wp_lss_f (by decide) ?_
  try(refine zz ?_;(repeat constructor);intro _)
  refine wp_ld (cs := [I 8, I 0, I 1073741825]) H (List.Mem.head _) rfl ?_
  try(refine zz ?_;(repeat constructor);intro _)
  refine wp_gtr_t (by decide) ?_
  try(refine zz ?_;(repeat constructor);intro _)
  refine wp_gchk_s rfl ?_
  try(refine zz ?_;(repeat constructor);intro _)
  refine wp_op (v := .agg zero5) rfl ?_
  refine wp_store (n := 5) H 0 (c := [I 0, B false, I 0, I 0, U 0]) rfl rfl rfl (by simp) fun S3 H => ?_
  have H : Cx B0 W S3 (.obj q (.row zero5) :: own) ro := H.tl
  refine wp_ret ⟨.inr rfl, ?_⟩
  refine wp_loadoa (n := 5) H 0 rfl (by simp [zero5]) ?_
  exact wp_ret ⟨rfl, rfl, H.dropAt 0⟩
theorem beq_op : AV.beq (.op 20 0 2 2 4) (.op 20 0 2 2 4) = true := by kernel_rfl
theorem tick2_ok (f26 : Fct.pt 26 0 world ∈ ro) (ft : Fct.sl (.op 20 0 2 2 4) 4 (tks tk2) ∈ ro) (h : WRep 358 wx blk) (H : Cx B0 W S (E ++ (blk ++ R)) ro) : wpC EM (.fn (.func 56) [] []) [.ptr 26 0, .agg [I 8, I 0, I 100000]] S fun r S' => r = .tup [.agg zero5, I 4] ∧ Cx B0 W S' (E ++ (blk ++ R)) ro := by
  refine wpC_fn (b := Tryz.a56) rfl rfl ?_
  rw [Tryz.u56]
  refine wp_fin ?_
  refine wp_box H rfl fun p S1 H => ?_
  refine wp_alloc H fun q S2 H => ?_
  have H : Cx B0 W S2 ((.obj q (.row zero5) :: E) ++ (blk ++ R)) (.pt p 0 [I 8, I 0, I 100000] :: ro) := H
  have mp : Fct.pt p 0 [I 8, I 0, I 100000] ∈ (.pt p 0 [I 8, I 0, I 100000] :: ro) := List.Mem.head _
  have m26 : Fct.pt 26 0 world ∈ (.pt p 0 [I 8, I 0, I 100000] :: ro) := List.mem_cons_of_mem _ f26
  have mt : Fct.sl (.op 20 0 2 2 4) 4 (tks tk2) ∈ (.pt p 0 [I 8, I 0, I 100000] :: ro) := List.mem_cons_of_mem _ ft
  try(refine zz ?_;(repeat constructor);intro _)
  refine wp_ld H mp rfl ?_
  refine wp_lss_f (by decide) ?_
  try(refine zz ?_;(repeat constructor);intro _)
  refine wp_ld H mp rfl ?_
  try(refine zz ?_;(repeat constructor);intro _)
  refine wp_gtr_f (by decide) ?_
  try(refine zz ?_;(repeat constructor);intro _)
  refine wp_ld H mp rfl ?_
  try(refine zz ?_;(repeat constructor);intro _)
  refine wp_call (wpC_mono (wnow_ok m26 h H) fun r S3 qq => ?_)
  obtain ⟨rfl, H⟩ := qq
  refine wp_gchk_t (wp_ck H mp rfl beq_num ?_)
  try(refine zz ?_;(repeat constructor);intro _)
  refine wp_sub64 (by decide) (by decide) ?_
  try(refine zz ?_;(repeat constructor);intro _)
  refine wp_gtr_f (by decide) ?_
  try(refine zz ?_;(repeat constructor);intro _)
  refine wp_ld H m26 (v := .ptr 358 0) rfl ?_
  refine wp_call (wpC_mono (copyW_ok h H) fun r S4 qq => ?_)
  obtain ⟨w', blk', rfl, h', H⟩ := qq
  try(refine zz ?_;(repeat constructor);intro _)
  refine wp_ld H m26 (v := .op 20 0 2 2 4) rfl ?_
  try(refine zz ?_;(repeat constructor);intro _)
  refine wp_ld H mp rfl ?_
  rw [← List.append_assoc] at H
  refine wp_call (wpC_mono (wnow_ok m26 h H) fun r S5 qq => ?_)
  obtain ⟨rfl, H⟩ := qq
  rw [List.append_assoc] at H
  refine wp_ck H m26 (v := .op 20 0 2 2 4) rfl beq_op ?_
  refine wp_ck H mp rfl beq_num ?_
  refine wp_add64 (by decide) (by decide) ?_
  have hr := run_ok (w := w') (E := []) (R := (.obj q (.row zero5) :: E) ++ (blk ++ R)) (to := 100003) mt h' H
  rw [run_long] at hr
  refine wp_call (wpC_mono hr fun r S6 qq => ?_)
  obtain ⟨u, blk2, rfl, _, H⟩ := qq
  have H : Cx B0 W S6 (.obj q (.row zero5) :: (E ++ (blk ++ R))) (.pt p 0 [I 8, I 0, I 100000] :: ro) := H.dropOwn (List.Sublist.cons _ (List.sublist_append_right blk2 _))
  try(refine zz ?_;(repeat constructor);intro _)
  refine wp_neq_t (by decide) ?_
  try(refine zz ?_;(repeat constructor);intro _)
  refine wp_op (v := .agg zero5) rfl ?_
  refine wp_store (n := 5) H 0 (c := zero5) rfl rfl rfl (by simp [zero5]) fun S7 H => ?_
  have H : Cx B0 W S7 (.obj q (.row zero5) :: (E ++ (blk ++ R))) ro := H.tl
  refine wp_ret ⟨.inr rfl, ?_⟩
  refine wp_loadoa (n := 5) H 0 rfl (by simp [zero5]) ?_
  exact wp_ret ⟨rfl, rfl, H.dropAt 0⟩
theorem do_ok {a e : Int} {Own1 : List Own} (f26 : Fct.pt 26 0 world ∈ ro) (H : Cx B0 W S Own1 ro)
    (ht : ∀ {S : AH} {E2 : List Own} {ro2 : List Fct}, (∀ φ ∈ ro, φ ∈ ro2) → Cx B0 W S (E2 ++ Own1) ro2 → wpC EM (.fn (.func 56) [] []) [.ptr 26 0, .agg [I 8, I 0, I a]] S fun r S' => r = .tup [.agg zero5, I e] ∧ Cx B0 W S' (E2 ++ Own1) ro2) :
    wpC EM (.fn (.func 7) [] []) [.ptr 26 0, .agg [I 8, I 0, I a]] S fun r S' => r = .tup [.agg zero5, I e] ∧ Cx B0 W S' Own1 ro := by
  refine wpC_fn (b := Tryz.a7) rfl rfl ?_
  rw [Tryz.u7]
  refine wp_fin ?_
  refine wp_box H rfl fun p S1 H => ?_
  refine wp_alloc H fun q S2 H => ?_
  have H : Cx B0 W S2 (.obj q (.row zero5) :: Own1) (.pt p 0 [I 8, I 0, I a] :: ro) := H
  have mp : Fct.pt p 0 [I 8, I 0, I a] ∈ (.pt p 0 [I 8, I 0, I a] :: ro) := List.Mem.head _
  have m26 : Fct.pt 26 0 world ∈ (.pt p 0 [I 8, I 0, I a] :: ro) := List.mem_cons_of_mem _ f26
  refine wp_call (wpC_mono (wnone_ok m26 H) fun r S3 qq => ?_)
  obtain ⟨rfl, rfl⟩ := qq
  try(refine zz ?_;(repeat constructor);intro _)
  refine wp_ld (o := 0) H mp rfl ?_
  refine wp_lss_f (by decide) ?_
  try(refine zz ?_;(repeat constructor);intro _)
  refine wp_ld (o := 0) H mp rfl ?_
  try(refine zz ?_;(repeat constructor);intro _)
  refine wp_gtr_f (by decide) ?_
  try(refine zz ?_;(repeat constructor);intro _)
  refine wp_ld (o := 0) H mp rfl ?_
  refine wp_lss_f (by decide) ?_
  refine wp_bind ?_
  try(refine zz ?_;(repeat constructor);intro _)
  refine wp_ret ?_
  show wp EM _ _ _
  have hm : wpC EM (.fn (.func 27) [] []) [] S3 fun r S' => r = .agg [Nf, .fn (.func 49) [] [], .fn (.func 50) [] [], .fn (.func 51) [] [], .fn (.func 52) [] [], .fn (.func 53) [] [], .fn (.func 54) [] [], .fn (.func 55) [] [], .fn (.func 56) [] [], .fn (.func 57) [] []] ∧ Grows S3 S' := by
    refine wpC_fn (b := Tryz.a27) rfl rfl ?_
    clear H
    have H : Cx S3 [] S3 [] [] := Cx.enter (by simp)
    rw [Tryz.u27]
    refine wp_fin ?_
    refine wp_alloc H fun z S4 H => ?_
    refine wp_op (v := .agg [Nf, .fn (.func 49) [] [], .fn (.func 50) [] [], .fn (.func 51) [] [], .fn (.func 52) [] [], .fn (.func 53) [] [], .fn (.func 54) [] [], .fn (.func 55) [] [], .fn (.func 56) [] [], .fn (.func 57) [] []]) rfl ?_
    refine wp_store (n := 10) H 0 (c := [Nf, Nf, Nf, Nf, Nf, Nf, Nf, Nf, Nf, Nf]) rfl rfl rfl (by simp) fun S5 H => ?_
    refine wp_ret ⟨.inr rfl, ?_⟩
    refine wp_loadoa (n := 10) H 0 rfl (Nat.le_of_ble_eq_true rfl) ?_
    exact wp_ret ⟨rfl, rfl, H.grows⟩
  refine wp_callV H hm fun S4 H => ?_
  refine wp_alloc H fun z S5 H => ?_
  refine wp_store (n := 10) H 0 (c := [Nf, Nf, Nf, Nf, Nf, Nf, Nf, Nf, Nf, Nf]) rfl rfl rfl (by simp) fun S6 H => ?_
  try(refine zz ?_;(repeat constructor);intro _)
  refine wp_ld (o := 0) H mp rfl ?_
  refine wp_paddr (i := 8) (by decide) ?_
  refine wp_row (j := 8) H 0 rfl (v := .fn (.func 56) [] []) rfl ?_
  refine wp_loada (n := 3) H mp (by simp) ?_
  have H : Cx B0 W S6 ([.obj q (.row zero5)] ++ Own1) (.pt p 0 [I 8, I 0, I a] :: ro) := H.dropAt 0
  refine wp_call (wpC_mono (ht (fun φ h => List.mem_cons_of_mem _ h) H) fun r S7 qq => ?_)
  obtain ⟨rfl, H⟩ := qq
  try(refine zz ?_;(repeat constructor);intro _)
  refine wp_store (n := 5) H 0 (c := zero5) rfl rfl rfl (by simp [zero5]) fun S8 H => ?_
  have H : Cx B0 W S8 (.obj q (.row zero5) :: Own1) ro := H.tl
  refine wp_ret ⟨.inr rfl, ?_⟩
  refine wp_loadoa (n := 5) H 0 rfl (by simp [zero5]) ?_
  exact wp_ret ⟨rfl, rfl, H.dropAt 0⟩
end
end Go.Abs
set_option linter.unusedSectionVars false
namespace Go.Abs
variable [Ek]
open Go.Proofs
set_option maxRecDepth 1000000
set_option linter.unusedVariables false
open Tsk (Tk tks tchk)
def mvs : List (List AV) := [[I 8, I 0, I 1073741825], [I 8, I 0, I 100000]]
section
variable {B0 S : AH} {W : List Nat} {own E R : List Own} {ro : List Fct} {Q : Post} {blk : List Own}
theorem play_ok (f26 : Fct.pt 26 0 world ∈ ro) (ft : Fct.sl (.op 20 0 2 2 4) 4 (tks tk2) ∈ ro) (fm : Fct.sl (.sl 5005 0 2 2) 3 mvs ∈ ro) (h : WRep 358 wx blk) (H : Cx B0 W S blk ro) :
    wpC EM (.fn (.func 39) [] []) [.ptr 26 0, .sl 5005 0 2 2] S fun r S' => ∃ a b, r = .tup [a, b] ∧ Cx B0 W S' (.sl b 1 (ints [3, 4]) :: blk) ro := by
  refine wpC_fn (b := Tryz.a39) rfl rfl ?_
  rw [Tryz.u39]
  refine wp_call (wpC_mono (wnone_ok f26 H) fun r S1 q => ?_)
  obtain ⟨rfl, rfl⟩ := q
  try(refine zz ?_;(repeat constructor);intro _)
  refine wp_len H fm ?_
  have K := (H.addOwn (x := .sl Ns 5 []) (Grows.refl _) (.inl ⟨rfl, rfl⟩) (by simp [Own.ids, vids])).addOwn (x := .sl Ns 1 []) (Grows.refl _) (.inl ⟨rfl, rfl⟩) (by simp [Own.ids, vids])
  refine wp_bind (wp_loop (wpL_for 2 (fun i vs S' => ∃ s1 s2 L2, vs = [I (i : Int), s1, s2] ∧ L2.length = i ∧ (∀ y ∈ L2, y.length = 5) ∧ Cx B0 W S' (.sl s1 1 (ints ([3, 4].take i)) :: .sl s2 5 L2 :: blk) ro) ?_ ?_ ⟨Ns, Ns, [], rfl, rfl, by simp, K⟩))
  · rintro i vs S2 hi ⟨s1, s2, L2, rfl, hL, hL5, H⟩
    refine wp_lss_t (by show (i : Int) < 2; omega) ?_
    try(refine zz ?_;(repeat constructor);intro _)
    refine wp_bind ?_
    have hmv : ∃ a e : Int, mvs[i]? = some [I 8, I 0, I a] ∧ ([3, 4] : List Int)[i]? = some e ∧ (∀ {S : AH} {E2 : List Own} {ro2 : List Fct}, (∀ φ ∈ ro, φ ∈ ro2) → Cx B0 W S (E2 ++ (.sl s1 1 (ints ([3, 4].take i)) :: .sl s2 5 L2 :: blk)) ro2 → wpC EM (.fn (.func 56) [] []) [.ptr 26 0, .agg [I 8, I 0, I a]] S fun r S' => r = .tup [.agg zero5, I e] ∧ Cx B0 W S' (E2 ++ (.sl s1 1 (ints ([3, 4].take i)) :: .sl s2 5 L2 :: blk)) ro2) := by
      rcases (show i = 0 ∨ i = 1 by omega) with rfl | rfl
      · exact ⟨1073741825, 3, rfl, rfl, fun hro H => tick1_ok H⟩
      · refine ⟨100000, 4, rfl, rfl, fun {S E2 ro2} hro H => ?_⟩
        have e : E2 ++ (.sl s1 1 (ints ([3, 4].take 1)) :: .sl s2 5 L2 :: blk) = (E2 ++ [.sl s1 1 (ints ([3, 4].take 1)), .sl s2 5 L2]) ++ (blk ++ []) := by simp
        rw [e] at H ⊢
        exact tick2_ok (hro _ f26) (hro _ ft) h H
    obtain ⟨a, e, hmv, he, ht⟩ := hmv
    refine wp_saddr H fm hmv fun id off H1 => ?_
    refine wp_loada (n := 3) H1 (List.Mem.head _) (by simp) ?_
    clear H1
    refine wp_alloc H fun z S3 H => ?_
    refine wp_store (n := 3) H 0 (c := [I 0, I 0, I 0]) rfl rfl rfl (by simp) fun S4 H => ?_
    have H : Cx B0 W S4 (.obj z (.row [I 8, I 0, I a]) :: .sl s1 1 (ints ([3, 4].take i)) :: .sl s2 5 L2 :: blk) ro := H
    refine wp_loadoa (n := 3) H 0 rfl (by simp) ?_
    refine wp_call (wpC_mono (do_ok f26 (H.dropAt 0) ht) fun r S5 qq => ?_)
    obtain ⟨rfl, H⟩ := qq
    try(refine zz ?_;(repeat constructor);intro _)
    refine wp_alloc H fun z2 S6 H => ?_
    refine wp_store (n := 5) H 0 (c := [I 0, B false, I 0, I 0, U 0]) rfl rfl rfl (by simp) fun S7 H => ?_
    have H : Cx B0 W S7 (.obj z2 (.row zero5) :: .sl s1 1 (ints ([3, 4].take i)) :: .sl s2 5 L2 :: blk) ro := H
    refine wp_loadoa (n := 5) H 0 rfl (by simp [zero5]) ?_
    refine wp_push (L := L2) H 2 rfl rfl rfl rfl (by rw [hL]; unfold maxBytes; omega) (by rw [hL]; unfold maxLenN; omega) fun t2 S8 H => ?_
    have hlen : (ints (([3, 4] : List Int).take i)).length = i := by rw [ints_len, List.length_take]; simp; omega
    refine wp_push (L := ints ([3, 4].take i)) H 1 rfl rfl rfl rfl (by rw [hlen]; unfold maxBytes; omega) (by rw [hlen]; unfold maxLenN; omega) fun t1 S9 H => ?_
    refine wp_ret ?_
    show wp EM _ _ _
    refine wp_add64 (by omega) (by omega) ?_
    refine wp_ret (.inl ⟨rfl, t1, t2, L2 ++ [zero5], rfl, by simp [hL], ?_, ?_⟩)
    · intro y hy
      rcases List.mem_append.1 hy with h | h
      · exact hL5 y h
      · rw [List.mem_singleton.1 h]; rfl
    · have e1 : ints (([3, 4] : List Int).take (i + 1)) = ints ([3, 4].take i) ++ [[I e]] := by
        rw [List.take_add_one, he]; simp [ints]
      rw [e1]
      exact H.dropAt 0
  · rintro vs S2 ⟨s1, s2, L2, rfl, hL, hL5, H⟩
    refine wp_lss_f (by show (2 : Int) ≤ ((2 : Nat) : Int); omega) ?_
    try(refine zz ?_;(repeat constructor);intro _)
    refine wp_ret ⟨by simp, ?_⟩
    show wp EM _ _ _
    exact wp_ret ⟨rfl, s2, s1, rfl, H.dropAt 1⟩
theorem errs_ok (f26 : Fct.pt 26 0 world ∈ ro) (ft : Fct.sl (.op 20 0 2 2 4) 4 (tks tk2) ∈ ro) (fm : Fct.sl (.sl 5005 0 2 2) 3 mvs ∈ ro) (fw : Fct.sl (.sl 5006 0 2 2) 1 (ints [3, 4]) ∈ ro) (h : WRep 358 wx blk) (H : Cx B0 W S blk ro) :
    wpC EM (.fn (.func 21) [] []) [.ptr 26 0, .sl 5005 0 2 2, .sl 5006 0 2 2] S fun r S' => r = B true := by
  refine wpC_fn (b := Tryz.a21) rfl rfl ?_
  rw [Tryz.u21]
  refine wp_call (wpC_mono (play_ok f26 ft fm h H) fun r S1 q => ?_)
  obtain ⟨a, b, rfl, H⟩ := q
  have H := H.toRo (i := 0) rfl
  try(refine zz ?_;(repeat constructor);intro _)
  refine wp_callV H (sameI_ok (l := [3, 4]) rfl rfl (H.roSl (List.Mem.head _)) (H.roSl (List.mem_cons_of_mem _ fw)) (by decide)) fun S2 H => ?_
  exact wp_ret ⟨rfl, rfl⟩
end
theorem ro_row {S : AH} {id : Nat} {c : List AV} (h : S.get id = some (.row c)) : (Fct.pt id 0 c).holds S := ⟨c, row_cells h, by omega, by simp⟩
theorem playKnown_ok (hb : Ek.b = false) : wpC EM (.fn (.func 4) [] []) [] ⟨.e, 0⟩ fun r _ => r = B true := by
  refine wpC_fn (b := Tryz.a4) (by show knB Ek.b 4 [] = _; rw [hb]; rfl) rfl ?_
  obtain ⟨S', hrun, hn, hrows, hmap⟩ := ends3_some ran3
  refine pre_wp pre3 (wp_run 4000000 hrun ⟨rfl, ?_⟩)
  unfold k3
  try(refine zz ?_;(repeat constructor);intro _)
  have h26 := hrows (26, world) (by simp)
  have h358 := hrows (358, wheelRow) (by simp)
  have h562 := hrows (562, [I 0, I 13]) (by simp)
  have h20 := hrows (20, tasks2) (by simp)
  have h5 := hrows (5005, [I 8, I 0, I 1073741825, I 8, I 0, I 100000]) (by simp)
  have h6 := hrows (5006, [I 3, I 4]) (by simp)
  have H : Cx S' [358, 414, 562] S' wblk [.pt 26 0 world, .sl (.op 20 0 2 2 4) 4 (tks tk2), .sl (.sl 5005 0 2 2) 3 mvs, .sl (.sl 5006 0 2 2) 1 (ints [3, 4])] := by
    refine ⟨Nat.le_refl _, fun _ _ _ => rfl, ?_, ?_, ?_, ?_, ?_⟩
    · intro x hx
      unfold wblk wOwn at hx
      rcases List.mem_cons.1 hx with rfl | hx
      · show S'.get 358 = _
        rw [h358, wheel_eq]
      rcases List.mem_cons.1 hx with rfl | hx
      · exact hmap
      · obtain ⟨k, hk, rfl⟩ := List.mem_map.1 hx
        show slW S' (wvs k) 2 (fis (wx.slot k))
        rw [wx_slot]
        unfold wvs
        by_cases e : k = 13
        · rw [if_pos e, if_pos e]
          exact .inr ⟨562, 0, _, .inr ⟨1, by simp [fis], by simp, rfl⟩, h562, rfl, by simp [fis, Fi.cs]⟩
        · rw [if_neg e, if_neg e]
          exact .inl ⟨rfl, rfl⟩
    · intro x hx id hid
      have : id = 358 ∨ id = 414 ∨ id = 562 := by
        unfold wblk wOwn at hx
        rcases List.mem_cons.1 hx with rfl | hx
        · simp [Own.ids] at hid; exact .inl hid
        rcases List.mem_cons.1 hx with rfl | hx
        · simp [Own.ids] at hid; exact .inr (.inl hid)
        · obtain ⟨k, hk, rfl⟩ := List.mem_map.1 hx
          simp only [Own.ids] at hid
          unfold wvs at hid
          by_cases e : k = 13
          · rw [if_pos e] at hid; simp [vids] at hid; exact .inr (.inr hid)
          · rw [if_neg e] at hid; simp [vids] at hid
      refine ⟨by omega, fun _ => by simp; omega⟩
    · have ids : ∀ k, ∀ id ∈ vids (wvs k), k = 13 ∧ id = 562 := by
        intro k id hid
        unfold wvs at hid
        by_cases e : k = 13
        · rw [if_pos e] at hid; simp [vids] at hid; exact ⟨e, hid⟩
        · rw [if_neg e] at hid; simp [vids] at hid
      unfold wblk wOwn
      refine List.pairwise_cons.2 ⟨fun y hy id h1 h2 => ?_, List.pairwise_cons.2 ⟨fun y hy id h1 h2 => ?_, List.pairwise_map.2 (List.Pairwise.imp (fun {a b} hne id h1 h2 => ?_) (List.nodup_range (n := 176)))⟩⟩
      · simp [Own.ids] at h1
        rcases List.mem_cons.1 hy with rfl | hy
        · simp [Own.ids] at h2; omega
        · obtain ⟨k, hk, rfl⟩ := List.mem_map.1 hy
          have := (ids k id h2).2
          omega
      · simp [Own.ids] at h1
        obtain ⟨k, hk, rfl⟩ := List.mem_map.1 hy
        have := (ids k id h2).2
        omega
      · exact hne ((ids a id h1).1.trans (ids b id h2).1.symm)
    · intro φ hφ
      simp only [List.mem_cons, List.not_mem_nil, or_false] at hφ
      rcases hφ with rfl | rfl | rfl | rfl
      · exact ro_row h26
      · exact .inr ⟨20, 0, _, .inr ⟨2, by simp [Tsk.tks, tk2], by simp [tasks2], rfl⟩, row_cells h20, rfl, by simp [Tsk.tks, tk2, Tsk.Tk.cs]⟩
      · exact .inr ⟨5005, 0, _, .inl ⟨2, by simp [mvs], by simp, rfl⟩, row_cells h5, rfl, by simp [mvs]⟩
      · exact .inr ⟨5006, 0, _, .inl ⟨2, by simp [ints], by simp, rfl⟩, row_cells h6, rfl, by simp [ints]⟩
    · intro φ hφ id hid
      have : id = 26 ∨ id = 20 ∨ id = 5005 ∨ id = 5006 := by
        simp only [List.mem_cons, List.not_mem_nil, or_false] at hφ
        rcases hφ with rfl | rfl | rfl | rfl <;> simp [Fct.ids, vids] at hid <;> omega
      refine ⟨by omega, fun x hx hid2 => ?_⟩
      have : id = 358 ∨ id = 414 ∨ id = 562 := by
        unfold wblk wOwn at hx
        rcases List.mem_cons.1 hx with rfl | hx
        · simp [Own.ids] at hid2; exact .inl hid2
        rcases List.mem_cons.1 hx with rfl | hx
        · simp [Own.ids] at hid2; exact .inr (.inl hid2)
        · obtain ⟨k, hk, rfl⟩ := List.mem_map.1 hx
          simp only [Own.ids] at hid2
          unfold wvs at hid2
          by_cases e : k = 13
          · rw [if_pos e] at hid2; simp [vids] at hid2; exact .inr (.inr hid2)
          · rw [if_neg e] at hid2; simp [vids] at hid2
      omega
  refine wp_call (wpC_mono (errs_ok (by simp) (by simp) (by simp) (by simp) wrep H) fun r S2 q => ?_)
  subst q
  try(refine zz ?_;(repeat constructor);intro _)
  exact wp_ret ⟨rfl, rfl⟩
end Go.Abs
