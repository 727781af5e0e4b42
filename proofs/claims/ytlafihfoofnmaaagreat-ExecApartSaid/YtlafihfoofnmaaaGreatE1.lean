/- functions of this cut: what they compute, in the abstract machine. Conditions: stated in each theorem -/
import Derived.Test.YtlafihfoofnmaaaGreatE0
set_option linter.unusedVariables false
set_option linter.unusedSimpArgs false
namespace Go.Abs
open Go.Proofs
set_option maxRecDepth 100000
set_option linter.unusedVariables false
/-! ### memories -/
def uints (l : List Int) : List (List AV) := l.map fun n => [U n]
theorem uints_len (l : List Int) : (uints l).length = l.length := List.length_map ..
theorem uints_get? {l : List Int} {i : Nat} {n : Int} (h : l[i]? = some n) : (uints l)[i]? = some [U n] := by unfold uints; rw [List.getElem?_map, h]; rfl
structure Me where
  ws : List Int
  kind : Int
  at' : Int
  old : Int
  new : Int
  held : Bool
  n : Int
def Me.last (x : Me) : List AV := [I x.kind, I x.at', U x.old, U x.new, B x.held]
def Me.prow (x : Me) (bl : Nat) : List AV := .ptr bl 0 :: I x.ws.length :: (x.last ++ [I x.n])
def Me.has (x : Me) (a : Int) : Prop := 0 ≤ a ∧ a < x.ws.length
instance (x : Me) (a : Int) : Decidable (x.has a) := inferInstanceAs (Decidable (_ ∧ _))

def Me.word (x : Me) (a : Int) : Int := if x.has a then x.ws[a.toNat]?.getD 0 else 0
def Me.acc (x : Me) (kind a w : Int) (held : Bool) : Me := if x.has a then ⟨x.ws.set a.toNat w, kind, a, x.word a, w, held, x.n + 1⟩ else ⟨x.ws, kind, a, 0, 0, false, x.n + 1⟩
def pMem (m bl : Nat) (x : Me) (rest : List AV) : List Own := [.obj m (.row (x.prow bl)), .obj bl (.row (x.ws.map U ++ rest))]
def Me.wf (x : Me) : Prop := 1 ≤ x.ws.length ∧ x.ws.length ≤ 4096 ∧ 0 ≤ x.n ∧ x.n ≤ 1152921504606846976
theorem Me.word_eq {x : Me} {a : Nat} {w : Int} (h : x.ws[a]? = some w) : x.word (a : Int) = w := by
  have := (List.getElem?_eq_some_iff.1 h).1
  unfold Me.word
  rw [if_pos (show x.has a from ⟨by omega, by omega⟩), Int.toNat_natCast, h]; rfl
section
variable {B0 S : AH} {W : List Nat} {own R : List Own} {ro : List Fct} {Q : Post} {k : AV → AC} {v : AV} {m bl w : Nat} {x : Me} {rest : List AV}
theorem wp_paddr {M : Mach} {len es id o i : Nat} (hi : i < len) (h : wp M (k (.ptr id (o + i * es))) S Q) : wp M (.op (.paddr len es (.ptr id o) (I (i : Int))) k) S Q := by
  refine wp_op (v := .ptr id (o + i * es)) ?_ h
  have h3 : idx? (I (i : Int)) len = some i := by
    show below i len = some i
    unfold below; rw [ble_t (by omega)]
  show pur (pPaddr len es (.ptr id o) (I (i : Int))) S = _
  unfold pPaddr
  simp only [h3]
  rfl
theorem wp_mkslice1 {M : Mach} {z : AV} {bytes n : Nat} (H : Cx B0 W S own ro) (hb : bytes * n ≤ 140737488355328) (hn : n ≤ 9223372036854775807)
    (h : ∀ t S1, Cx B0 W S1 (.sl t 1 (List.replicate n [z]) :: own) ro → wp M (k t) S1 Q) : wp M (.op (.mkslice 1 bytes [z] (I (n : Int)) (I (n : Int))) k) S Q := by
  have hz : ∀ m : Nat, repZero [z] m = List.replicate m z := by
    intro m
    induction m with
    | zero => rfl
    | succ m ih =>
      show appL [z] (repZero [z] m) = _
      rw [ih, appL_eq]; rfl
  have hnat : nat? (n : Int) = some n := by
    unfold nat?
    rfl
  refine wp_op (v := .sl S.next 0 n n) (S1 := S.new (.row (List.replicate n z))) ?_ (h _ _ (H.addOwn (Grows.new S _) (.inr ⟨S.next, 0, List.replicate n z, .inl ⟨n, by simp, by simp, by simp⟩, get_new_same _ _, ?_, ?_⟩) ?_))
  · show nMkslice 1 bytes [z] (I (n : Int)) (I (n : Int)) S = _
    unfold nMkslice
    simp only [asInt, vInt, hnat]
    have e : (Nat.ble n n && Nat.ble (Nat.mul bytes n) 140737488355328 && Nat.ble n 9223372036854775807 && Nat.beq (lenL [z]) 1) = true := by
      have hb' : Nat.ble (Nat.mul bytes n) 140737488355328 = true := ble_t hb
      rw [ble_t (Nat.le_refl n), hb', ble_t hn]; rfl
    rw [e, hz]
    rfl
  · have : ∀ m : Nat, (List.replicate m [z]).flatten = List.replicate m z := by
      intro m
      induction m with
      | zero => rfl
      | succ m ih => rw [List.replicate_succ, List.flatten_cons, ih]; rfl
    rw [this]; simp
  · intro x hx
    rw [(List.mem_replicate.1 hx).2]; rfl
  · intro j hj
    simp only [Own.ids, vids, List.mem_singleton] at hj
    subst hj
    simp
/-! ### the program's -/
theorem cell_ok' {a : Int} (hx : x.wf) (H : Cx B0 W S (pMem m bl x rest ++ R) ro) : wpC EM (.fn (.func 151) [] []) [.ptr m 0, I a] S fun r S' => r = (if x.has a then .ptr bl a.toNat else Np) ∧ S' = S := by
  refine wpC_fn (b := Tryz.a151) rfl rfl ?_
  unfold Tryz.a151 Tryz.a151x2 Tryz.a151x1 Tryz.a151x0
  unfold Me.wf at hx
  refine wp_op (e_ptrNil (by kernel_rfl)) ?_
  try(refine zz ?_;(repeat constructor);intro _)
  refine wp_row (j := 0) H 0 rfl rfl ?_
  try(refine zz ?_;(repeat constructor);intro _)
  refine wp_op (e_ptrNil (by kernel_rfl)) ?_
  try(refine zz ?_;(repeat constructor);intro _)
  refine wp_lss (fun h0 => ?_) (fun h0 => ?_)
  · try(refine zz ?_;(repeat constructor);intro _)
    exact wp_ret ⟨rfl, by rw [if_neg (fun h => by have := h.1; omega)]; rfl, rfl⟩
  try(refine zz ?_;(repeat constructor);intro _)
  refine wp_row (j := 1) H 0 rfl rfl ?_
  try(refine zz ?_;(repeat constructor);intro _)
  refine wp_geq (fun h1 => ?_) (fun h1 => ?_)
  · try(refine zz ?_;(repeat constructor);intro _)
    exact wp_ret ⟨rfl, by rw [if_neg (fun h => by have := h.2; omega)]; rfl, rfl⟩
  try(refine zz ?_;(repeat constructor);intro _)
  refine wp_row (j := 0) H 0 rfl rfl ?_
  try(refine zz ?_;(repeat constructor);intro _)
  obtain ⟨n, rfl⟩ : ∃ n : Nat, a = (n : Int) := ⟨a.toNat, by omega⟩
  refine wp_paddr (i := n) (by omega) ?_
  refine wp_ret ⟨rfl, ?_, rfl⟩
  rw [if_pos ⟨by omega, by omega⟩]
  have e : 0 + n * 1 = n := by omega
  rw [e, Int.toNat_natCast]; rfl
theorem blk_get {a : Nat} {z : Int} (h : x.ws[a]? = some z) : (x.ws.map U ++ rest)[a]? = some (U z) := by
  have := (List.getElem?_eq_some_iff.1 h).1
  rw [List.getElem?_append_left (by simpa using this), List.getElem?_map, h]; rfl
theorem blk_set {a : Nat} {z : Int} (h : a < x.ws.length) : (x.ws.map U ++ rest).set a (U z) = (x.ws.set a z).map U ++ rest := by
  rw [List.set_append_left _ _ (by simpa using h), List.map_set]
theorem isPlace_N : wpC EM (.fn (.func 232) [] []) [Np] S fun r S' => r = B false ∧ S' = S := by
  refine wpC_fn (b := Tryz.a232) rfl rfl ?_
  unfold Tryz.a232
  refine wp_op (S1 := S) (v := B false) (by kernel_rfl) ?_
  exact wp_ret ⟨rfl, rfl, rfl⟩
theorem isPlace_p {id o : Nat} : wpC EM (.fn (.func 232) [] []) [.ptr id o] S fun r S' => r = B true ∧ S' = S := by
  refine wpC_fn (b := Tryz.a232) rfl rfl ?_
  unfold Tryz.a232
  refine wp_op (e_ptrNil (by kernel_rfl)) ?_
  exact wp_ret ⟨rfl, rfl, rfl⟩
def blk (x : Me) (rest : List AV) : List AV := x.ws.map U ++ rest
theorem do_ok' {kind a z : Int} {held : Bool} {how : AV} (hx : x.wf) (H : Cx B0 W S (pMem m bl x rest ++ R) ro)
    (hhow : x.has a → ∀ {S1 : AH} {R1 : List Own}, Cx B0 W S1 (.obj bl (.row (blk x rest)) :: R1) ro → wpC EM how [] S1 fun r S' => r = .tup [U z, B held] ∧ Cx B0 W S' (.obj bl (.row (blk x rest)) :: R1) ro) :
    wpC EM (.fn (.func 152) [] []) [.ptr m 0, I kind, I a, (if x.has a then .ptr bl a.toNat else Np), how] S fun r S' => r = .agg (x.acc kind a z held).last ∧ Cx B0 W S' (pMem m bl (x.acc kind a z held) rest ++ R) ro := by
  refine wpC_fn (b := Tryz.a152) rfl rfl ?_
  unfold Tryz.a152 Tryz.a152x8 Tryz.a152x7 Tryz.a152x6 Tryz.a152x5 Tryz.a152x4 Tryz.a152x3 Tryz.a152x2 Tryz.a152x1 Tryz.a152x0
  unfold Me.wf at hx
  refine wp_fin ?_
  refine wp_alloc H fun q S1 H => ?_
  refine wp_op (e_ptrNil (by kernel_rfl)) ?_
  try(refine zz ?_;(repeat constructor);intro _)
  refine wp_row (j := 0) H 1 rfl rfl ?_
  try(refine zz ?_;(repeat constructor);intro _)
  refine wp_op (e_ptrNil (by kernel_rfl)) ?_
  try(refine zz ?_;(repeat constructor);intro _)
  refine wp_row (j := 7) H 1 rfl rfl ?_
  refine wp_add64 (by omega) (by omega) ?_
  try(refine zz ?_;(repeat constructor);intro _)
  refine wp_set1 (j := 7) H 1 rfl (by simp [Me.prow, Me.last]) ⟨rfl, rfl⟩ fun S2 H => ?_
  refine wp_op (v := .agg [I kind, I a, U 0, U 0, B false]) rfl ?_
  try(refine zz ?_;(repeat constructor);intro _)
  refine wp_store (off := 2) (n := 5) H 1 rfl rfl rfl (Nat.le_of_ble_eq_true rfl) fun S3 H => ?_
  have H : Cx B0 W S3 (.obj q (.row [I 0, I 0, U 0, U 0, B false]) :: (pMem m bl ⟨x.ws, kind, a, 0, 0, false, x.n + 1⟩ rest ++ R)) ro := H
  have fin : ∀ {S4 : AH} {y : Me} , Cx B0 W S4 (.obj q (.row [I 0, I 0, U 0, U 0, B false]) :: (pMem m bl y rest ++ R)) ro → wp EM (.op (.nilchk (.ptr m 0)) fun v22 => .op (.faddr 2 v22) fun v23 => .op (.load 5 true v23) fun v24 => Tryz.a152x4 (.ptr q 0) v24) S4 fun t vs S' => (t = .normal ∨ t = .ret) ∧ wp EM (.op (.load 5 true (nth vs 0)) fun v2 => .ret .ret [v2]) S' fun t vs S' => t = .ret ∧ oneOf vs = .agg y.last ∧ Cx B0 W S' (pMem m bl y rest ++ R) ro := by
    intro S4 y H
    unfold Tryz.a152x4
    try(refine zz ?_;(repeat constructor);intro _)
    refine wp_loadoa (off := 2) (n := 5) H 1 rfl (Nat.le_of_ble_eq_true rfl) ?_
    refine wp_store (n := 5) (v := .agg y.last) H 0 rfl rfl rfl (Nat.le_of_ble_eq_true rfl) fun S5 H => ?_
    have H : Cx B0 W S5 (.obj q (.row y.last) :: (pMem m bl y rest ++ R)) ro := H
    refine wp_ret ⟨.inr rfl, ?_⟩
    refine wp_loadoa (off := 0) (n := 5) H 0 rfl (Nat.le_of_ble_eq_true rfl) ?_
    exact wp_ret ⟨rfl, rfl, H.dropAt 0⟩
  unfold Tryz.a152x4 at fin
  by_cases hh : x.has a
  · rw [if_pos hh]
    have hacc : x.acc kind a z held = ⟨x.ws.set a.toNat z, kind, a, x.word a, z, held, x.n + 1⟩ := if_pos hh
    obtain ⟨n, rfl⟩ : ∃ n : Nat, a = (n : Int) := ⟨a.toNat, by have := hh.1; omega⟩
    have hn : n < x.ws.length := by have := hh.2; omega
    have hw : x.ws[n]? = some x.ws[n] := List.getElem?_eq_getElem hn
    generalize x.ws[n] = old at hw
    rw [hacc, Me.word_eq hw]
    rw [Int.toNat_natCast] at *
    refine wp_call (wpC_mono isPlace_p fun r S4 qq => ?_)
    obtain ⟨rfl, rfl⟩ := qq
    refine wp_bind ?_
    try(refine zz ?_;(repeat constructor);intro _)
    have K := H.permS (own' := .obj bl (.row (blk x rest)) :: .obj q (.row [I 0, I 0, U 0, U 0, B false]) :: .obj m (.row (Me.prow ⟨x.ws, kind, n, 0, 0, false, x.n + 1⟩ bl)) :: R) (List.perm_middle (l₁ := [_, _]) (l₂ := R))
    refine wp_call (wpC_mono (hhow hh K) fun r S5 qq => ?_)
    obtain ⟨rfl, K⟩ := qq
    try(refine zz ?_;(repeat constructor);intro _)
    refine wp_row (j := n) K 0 rfl (blk_get hw) ?_
    try(refine zz ?_;(repeat constructor);intro _)
    refine wp_set1 (j := 4) K 2 rfl (Nat.le_of_ble_eq_true rfl) ⟨rfl, rfl⟩ fun S6 K => ?_
    try(refine zz ?_;(repeat constructor);intro _)
    refine wp_set1 (j := 5) K 2 rfl (Nat.le_of_ble_eq_true rfl) ⟨rfl, rfl⟩ fun S7 K => ?_
    try(refine zz ?_;(repeat constructor);intro _)
    refine wp_set1 (j := 6) K 2 rfl (Nat.le_of_ble_eq_true rfl) ⟨rfl, rfl⟩ fun S8 K => ?_
    try(refine zz ?_;(repeat constructor);intro _)
    refine wp_set1 (j := n) K 0 rfl (by simp [blk]; omega) ⟨rfl, rfl⟩ fun S9 K => ?_
    refine wp_ret ?_
    show wp EM _ _ _
    have e : (blk x rest).set n (U z) = (x.ws.set n z).map U ++ rest := blk_set hn
    have K : Cx B0 W S9 (.obj bl (.row ((blk x rest).set n (U z))) :: .obj q (.row [I 0, I 0, U 0, U 0, B false]) :: .obj m (.row (Me.prow ⟨x.ws, kind, n, old, z, held, x.n + 1⟩ bl)) :: R) ro := K
    rw [e] at K
    have hp : Me.prow ⟨x.ws.set n z, kind, n, old, z, held, x.n + 1⟩ bl = Me.prow ⟨x.ws, kind, n, old, z, held, x.n + 1⟩ bl := by unfold Me.prow; rw [List.length_set]; rfl
    have K := K.permS (own' := .obj q (.row [I 0, I 0, U 0, U 0, B false]) :: .obj m (.row (Me.prow ⟨x.ws, kind, n, old, z, held, x.n + 1⟩ bl)) :: .obj bl (.row ((x.ws.set n z).map U ++ rest)) :: R) (List.perm_middle (l₁ := [_, _]) (l₂ := R)).symm
    refine fin (y := ⟨x.ws.set n z, kind, n, old, z, held, x.n + 1⟩) ?_
    unfold pMem
    rw [hp]
    exact K
  · rw [if_neg hh]
    have hacc : x.acc kind a z held = ⟨x.ws, kind, a, 0, 0, false, x.n + 1⟩ := if_neg hh
    rw [hacc]
    refine wp_call (wpC_mono isPlace_N fun r S4 qq => ?_)
    obtain ⟨rfl, rfl⟩ := qq
    refine wp_bind ?_
    try(refine zz ?_;(repeat constructor);intro _)
    refine wp_ret ?_
    show wp EM _ _ _
    exact fin H
end
end Go.Abs
namespace Go.Abs
open Go.Proofs
set_option maxRecDepth 100000
set_option linter.unusedVariables false
def Me.good (x : Me) : Prop := x.wf ∧ ∀ w ∈ x.ws, 0 ≤ w ∧ w < 18446744073709551616
theorem Me.word_bd {x : Me} (h : x.good) (a : Int) : 0 ≤ x.word a ∧ x.word a < 18446744073709551616 := by
  unfold Me.word
  split
  · next hh =>
    have hn : a.toNat < x.ws.length := by have := hh.2; have := hh.1; omega
    rw [List.getElem?_eq_getElem hn]
    exact h.2 _ (List.getElem_mem hn)
  · omega
section
variable {B0 S : AH} {W : List Nat} {own R : List Own} {ro : List Fct} {Q : Post} {k : AV → AC} {v : AV} {m bl w : Nat} {x : Me} {rest : List AV}
theorem wp_aslice {M : Mach} {len id n : Nat} (hn : n ≤ len) (hl : Nat.beq len 0 = false) (h : wp M (k (.sl id 0 n len)) S Q) : wp M (.op (.aslice len 1 (.ptr id 0) none (some (I (n : Int))) none) k) S Q := by
  refine wp_op (v := .sl id 0 n len) ?_ h
  show pur (pAslice len 1 (.ptr id 0) none (some (I (n : Int))) none) S = _
  have e1 : bndO (some (I (n : Int))) len len = some n := by
    show bnd? (I (n : Int)) len = _
    unfold bnd?
    show below n len.succ = some n
    unfold below
    rw [ble_t (by omega)]
  have e2 : bnds none (some (I (n : Int))) none len len = some (0, n, len) := by
    unfold bnds
    show (match bndO (some (I (n : Int))) len len with | some h => _ | none => none) = _
    rw [e1]
    rfl
  unfold pAslice
  simp only [e2, hl]
  rfl
theorem storeD_ok {c : AV} {z o : Int} : wpC EM (.fn (.func 153) [.agg [c, U z, U o]] []) [] S fun r S' => r = .tup [U z, B true] ∧ Grows S S' := by
  refine wpC_fn (b := Tryz.a153) rfl rfl ?_
  have H : Cx S [] S [] [] := Cx.enter (by simp)
  unfold Tryz.a153
  refine wp_box H rfl fun p S1 H => ?_
  try(refine zz ?_;(repeat constructor);intro _)
  refine wp_ld (o := 1) H (by repeat (first | exact List.Mem.head _ | apply List.Mem.tail)) rfl ?_
  exact wp_ret ⟨rfl, rfl, H.grows⟩
def Me.at (x : Me) (bl : Nat) (a : Int) : AV := if x.has a then .ptr bl a.toNat else Np
theorem Me.at_cases (x : Me) (bl : Nat) (a : Int) : x.at bl a = Np ∨ ∃ i o, x.at bl a = .ptr i o := by
  unfold Me.at; split
  · exact .inr ⟨_, _, rfl⟩
  · exact .inl rfl
theorem store_ok' {a z : Int} (hx : x.wf) (H : Cx B0 W S (pMem m bl x rest ++ R) ro) : wpC EM (.fn (.func 76) [] []) [.ptr m 0, I a, U z] S fun r S' => Cx B0 W S' (pMem m bl (x.acc 2 a z true) rest ++ R) ro := by
  refine wpC_fn (b := Tryz.a76) rfl rfl ?_
  unfold Tryz.a76 Tryz.a76x0
  refine wp_call (wpC_mono (cell_ok' hx H) fun r S1 q => ?_)
  obtain ⟨rfl, rfl⟩ := q
  have hd : ∀ {S : AH}, Cx B0 W S (pMem m bl x rest ++ R) ro → wpC EM (.fn (.func 152) [] []) [.ptr m 0, I 2, I a, x.at bl a, .fn (.func 153) [.agg [x.at bl a, U z, U 0]] []] S fun r S' => r = .agg (x.acc 2 a z true).last ∧ Cx B0 W S' (pMem m bl (x.acc 2 a z true) rest ++ R) ro :=
    fun H => do_ok' hx H fun hh S1 R1 H => wpC_mono storeD_ok fun r S5 qq => ⟨qq.1, H.grow qq.2⟩
  change wp EM (.op (.build [Np, U 0, U 0] [(0, 1, x.at bl a), (1, 1, U z)]) _) _ _
  have hc := x.at_cases bl a
  generalize x.at bl a = c at hc hd
  have ho : odd c = false ∧ c.cells = [c] := by rcases hc with rfl | ⟨i, o, rfl⟩ <;> exact ⟨rfl, rfl⟩
  refine wp_op (v := .agg [c, U z, U 0]) (by rcases hc with rfl | ⟨i, o, rfl⟩ <;> rfl) ?_
  refine wp_alloc H fun q S2 H => ?_
  refine wp_store (n := 3) H 0 (c := [Np, U 0, U 0]) rfl rfl rfl (by simp) fun S3 H => ?_
  have H : Cx B0 W S3 (.obj q (.row [c, U z, U 0]) :: (pMem m bl x rest ++ R)) ro := H
  try(refine zz ?_;(repeat constructor);intro _)
  refine wp_row (j := 0) H 0 rfl rfl ?_
  refine wp_loadoa (n := 3) H 0 rfl (by simp) ?_
  refine wp_call (wpC_mono (hd (H.dropAt 0)) fun r S4 qq => ?_)
  exact wp_ret ⟨rfl, qq.2⟩
def Me.fresh (n : Nat) : Me := ⟨List.replicate n 0, 0, 0, 0, 0, false, 0⟩
theorem newC_ok {n : Nat} (h1 : 1 ≤ n) (h2 : n ≤ 4096) (H : Cx B0 W S own ro) : wpC EM (.fn (.func 36) [] []) [I (n : Int)] S fun r S' => ∃ m bl, r = .tup [.ptr m 0, I 0] ∧ Cx B0 W S' (pMem m bl (Me.fresh n) (List.replicate (4096 - n) (U 0)) ++ own) ro := by
  refine wpC_fn (b := Tryz.a36) rfl rfl ?_
  unfold Tryz.a36 Tryz.a36x0
  refine wp_lss_f (by omega) ?_
  try(refine zz ?_;(repeat constructor);intro _)
  refine wp_gtr_f (by omega) ?_
  try(refine zz ?_;(repeat constructor);intro _)
  refine wp_alloc H fun bl S1 H => ?_
  refine wp_op (v := .agg ((Me.fresh n).prow bl)) (by unfold Me.fresh Me.prow; rw [List.length_replicate]; rfl) ?_
  refine wp_boxOwn H rfl fun m S2 H => ?_
  have e : List.replicate 4096 (U 0) = (Me.fresh n).ws.map U ++ List.replicate (4096 - n) (U 0) := by
    unfold Me.fresh
    rw [List.map_replicate, List.replicate_append_replicate, show n + (4096 - n) = 4096 by omega]
  rw [e] at H
  exact wp_ret ⟨rfl, m, bl, rfl, H⟩
theorem words_ok (hx : x.wf) (hr : x.ws.length + rest.length = 4096) (H : Cx B0 W S (pMem m bl x rest ++ R) ro) : wpC EM (.fn (.func 80) [] []) [.ptr m 0] S fun r S' => Cx B0 W S' (.sl r 1 (uints x.ws) :: (pMem m bl x rest ++ R)) ro := by
  refine wpC_fn (b := Tryz.a80) rfl rfl ?_
  unfold Tryz.a80 Tryz.a80x5 Tryz.a80x4 Tryz.a80x3 Tryz.a80x2 Tryz.a80x1 Tryz.a80x0
  unfold Me.wf at hx
  refine wp_op (e_ptrNil (by kernel_rfl)) ?_
  try(refine zz ?_;(repeat constructor);intro _)
  refine wp_row (j := 0) H 0 rfl rfl ?_
  try(refine zz ?_;(repeat constructor);intro _)
  refine wp_op (e_ptrNil (by kernel_rfl)) ?_
  try(refine zz ?_;(repeat constructor);intro _)
  refine wp_row (j := 1) H 0 rfl rfl ?_
  refine wp_mkslice1 H (by omega) (by omega) fun t S1 H => ?_
  have H : Cx B0 W S1 (.sl t 1 (List.replicate x.ws.length [U 0]) :: (pMem m bl x rest ++ R)) ro := H
  try(refine zz ?_;(repeat constructor);intro _)
  refine wp_row (j := 0) H 1 rfl rfl ?_
  try(refine zz ?_;(repeat constructor);intro _)
  refine wp_row (j := 1) H 1 rfl rfl ?_
  refine wp_aslice (by omega) rfl ?_
  refine wp_op (v := I (x.ws.length : Nat)) rfl ?_
  refine wp_bind (wp_loop (wpL_for x.ws.length (fun i vs S' => vs = [I (i : Int)] ∧ Cx B0 W S' (.sl t 1 (uints (x.ws.take i) ++ List.replicate (x.ws.length - i) [U 0]) :: (pMem m bl x rest ++ R)) ro) ?_ ?_ ⟨rfl, by simpa [uints] using H⟩))
  · rintro i vs S2 hi ⟨rfl, H⟩
    refine wp_lss_t (by omega) ?_
    try(refine zz ?_;(repeat constructor);intro _)
    refine wp_bind ?_
    refine wp_op (S1 := S2) (v := .ptr bl (0 + i * 1)) ?_ ?_
    · show pur (pSaddr 1 (.sl bl 0 x.ws.length 4096) (I (i : Int))) S2 = _
      unfold pSaddr
      have h3 : idx? (I (i : Int)) x.ws.length = some i := by
        show below i x.ws.length = some i
        unfold below; rw [ble_t (by omega)]
      simp only [h3]
      rfl
    have hw : x.ws[i]? = some x.ws[i] := List.getElem?_eq_getElem hi
    rw [show 0 + i * 1 = i by omega]
    refine wp_row (j := i) H 2 rfl (blk_get hw) ?_
    generalize x.ws[i] = z at hw
    refine wp_storeE (y := U z) (i := i) H 0 rfl (by simp [uints]; omega) rfl rfl fun S3 H => ?_
    refine wp_ret ?_
    show wp EM _ _ _
    refine wp_add64 (by omega) (by omega) ?_
    refine wp_ret (.inl ⟨rfl, rfl, ?_⟩)
    have e : (uints (x.ws.take i) ++ List.replicate (x.ws.length - i) [U 0]).set i [U z] = uints (x.ws.take (i + 1)) ++ List.replicate (x.ws.length - (i + 1)) [U 0] := by
      have hl : (uints (x.ws.take i)).length = i := by rw [uints_len, List.length_take]; omega
      rw [List.set_append_right _ _ (by omega), hl, Nat.sub_self, List.take_add_one, hw, show x.ws.length - i = (x.ws.length - (i + 1)) + 1 by omega, List.replicate_succ, List.set_cons_zero]
      simp [uints]
    exact e ▸ H
  · rintro vs S2 ⟨rfl, H⟩
    refine wp_lss_f (by omega) ?_
    try(refine zz ?_;(repeat constructor);intro _)
    refine wp_ret ⟨by simp, ?_⟩
    show wp EM _ _ _
    refine wp_ret ⟨rfl, ?_⟩
    rw [List.take_length, Nat.sub_self, show uints x.ws ++ List.replicate 0 [U 0] = uints x.ws by simp] at H
    exact H
/-! ### the document's -/
end
end Go.Abs
namespace Go.Abs
open Go.Proofs
set_option maxRecDepth 100000
set_option linter.unusedVariables false
/-! ### numbers without a sign -/
section
variable {M : Mach} {S : AH} {Q : Post} {k : AV → AC} {κ κ' : IntKind}
theorem e_shr {a b : Int} (hb : 0 ≤ b) : evalOp M.P (.bin .shr (Z κ a) (Z κ' b)) S = some (Z κ (a.fdiv (2 ^ (min b.toNat κ.bits))), S) := by
  show pur (bShr (Z κ a) (Z κ' b)) S = _
  have : ltF b 0 = false := by rw [ltF_eq]; simpa using hb
  unfold bShr
  simp only [this]
  rfl
theorem shr_nat {n s : Nat} : ((n : Int).fdiv (2 ^ s)) = ((n / 2 ^ s : Nat) : Int) := by
  have : ((2 : Int) ^ s) = ((2 ^ s : Nat) : Int) := by simp
  rw [this, Int.ofNat_fdiv]
theorem wp_shrU {n s : Nat} (hn : n ≤ 18446744073709551615) (hs : s ≤ 64) (h : wp M (k (U ((n / 2 ^ s : Nat) : Int))) S Q) : wp M (.op (.bin .shr (U (n : Int)) (Z κ' (s : Int))) k) S Q := by
  refine wp_op (e_shr (by omega)) ?_
  have e : min (s : Int).toNat IntKind.u64.bits = s := by show min (s : Int).toNat 64 = s; omega
  rw [e, shr_nat]; exact h
theorem wp_conv {a c : Int} (hw : wrapF κ a = c) (h : wp M (k (Z κ c)) S Q) : wp M (.op (.conv κ (Z κ' a)) k) S Q := wp_op (v := Z κ c) (by show pur (pConv κ (Z κ' a)) S = _; rw [← hw]; rfl) h
theorem wrapUn {n : Nat} (h : n < 18446744073709551616) : wrapF .u64 (n : Int) = (n : Int) := by rw [wrapF_eq, IntKind.wrap_u64]; omega
theorem wrap32 {n : Nat} : wrapF .u32 (n : Int) = ((n % 4294967296 : Nat) : Int) := by rw [wrapF_eq, IntKind.wrap_u32]; omega
theorem wp_convU (n : Nat) (h : n < 18446744073709551616) (hk : wp M (k (U (n : Int))) S Q) : wp M (.op (.conv .u64 (Z κ' (n : Int))) k) S Q := wp_conv (wrapUn h) hk
theorem wp_convI (n : Nat) (h : n < 9223372036854775808) (hk : wp M (k (I (n : Int))) S Q) : wp M (.op (.conv .i64 (Z κ' (n : Int))) k) S Q := wp_conv (wrap64 (by omega) (by omega)) hk
theorem wp_conv32 (n : Nat) (hk : wp M (k (Z .u32 ((n % 4294967296 : Nat) : Int))) S Q) : wp M (.op (.conv .u32 (Z κ' (n : Int))) k) S Q := wp_conv wrap32 hk
theorem wp_remU {a b : Nat} (hb : b ≠ 0) (h : wp M (k (U ((a % b : Nat) : Int))) S Q) : wp M (.op (.bin .rem (U (a : Int)) (U (b : Int))) k) S Q := wp_rem (by omega) (by
  rw [Int.tmod_eq_emod_of_nonneg (by omega)]; exact_mod_cast h)
theorem wp_quoU {a b : Nat} (hb : b ≠ 0) (ha : a < 18446744073709551616) (h : wp M (k (U ((a / b : Nat) : Int))) S Q) : wp M (.op (.bin .quo (U (a : Int)) (U (b : Int))) k) S Q := by
  have h2 : a / b ≤ a := Nat.div_le_self a b
  refine wp_quo (c := ((a / b : Nat) : Int)) (by omega) ?_ h
  rw [Int.tdiv_eq_ediv_of_nonneg (by omega)]
  exact wrapUn (n := a / b) (by omega)
theorem wp_andU {a b : Nat} (ha : a < 18446744073709551616) (hb : b < 18446744073709551616) (h : wp M (k (U ((a &&& b : Nat) : Int))) S Q) : wp M (.op (.bin .and (U (a : Int)) (U (b : Int))) k) S Q := wp_op (v := U ((a &&& b : Nat) : Int)) (by
  show pur (bAnd (U (a : Int)) (U (b : Int))) S = _
  unfold bAnd
  simp only [int2, asInt, vInt, kindEq_refl]
  have e : (BitVec.ofInt IntKind.u64.bits (a : Int) &&& BitVec.ofInt IntKind.u64.bits (b : Int)).toNat = a &&& b := by
    rw [BitVec.toNat_and]
    have x : ∀ n : Nat, n < 18446744073709551616 → (BitVec.ofInt IntKind.u64.bits (n : Int)).toNat = n := by
      intro n hn
      show (BitVec.ofInt 64 (n : Int)).toNat = n
      rw [BitVec.ofInt_natCast, BitVec.toNat_ofNat]
      exact Nat.mod_eq_of_lt hn
    rw [x a ha, x b hb]
  have hor : a &&& b < 18446744073709551616 := Nat.lt_of_le_of_lt Nat.and_le_left ha
  show pur (some (AV.sc (.int .u64 (wrapF .u64 ((BitVec.ofInt IntKind.u64.bits (a : Int) &&& BitVec.ofInt IntKind.u64.bits (b : Int)).toNat : Nat))))) S = _
  rw [e, wrapUn hor]; rfl) h
theorem wp_addU {n : Nat} (h : wp M (k (U (((n + 1) % 18446744073709551616 : Nat) : Int))) S Q) : wp M (.op (.bin .add (U (n : Int)) (U 1)) k) S Q := wp_add (c := (((n + 1) % 18446744073709551616 : Nat) : Int)) (by rw [wrapF_eq, IntKind.wrap_u64]; omega) h
end
/-! ### rings -/
structure Rg where
  hd : Int
  tl : Int
  sl : Int
  cp : Nat
def Rg.cs (r : Rg) : List AV := [I r.hd, I r.tl, I r.sl, I r.cp]
def Rg.ok (r : Rg) : Prop := 1 ≤ r.cp ∧ r.cp ≤ 4096 ∧ 0 ≤ r.sl ∧ r.sl ≤ 1000000
def Rg.place (r : Rg) (n : Nat) : Int := r.sl + ((n % r.cp : Nat) : Int)
def Rg.lap (r : Rg) (n : Nat) : Nat := n / r.cp % 4294967296
def slFull (w lap : Nat) : Prop := w / 4294967296 = lap ∧ w / 65536 % 2 = 1
instance (w lap : Nat) : Decidable (slFull w lap) := inferInstanceAs (Decidable (_ ∧ _))
section
variable {B0 S : AH} {W : List Nat} {own R : List Own} {ro : List Fct} {Q : Post} {r : Rg}
theorem rplace_ok {n : Nat} (hr : r.ok) (hn : n < 18446744073709551616) : wpC EM (.fn (.func 159) [] []) [.agg r.cs, U (n : Int)] S fun v S' => v = I (r.place n) ∧ Grows S S' := by
  refine wpC_fn (b := Tryz.a159) rfl rfl ?_
  have H : Cx S [] S [] [] := Cx.enter (by simp)
  unfold Rg.ok at hr
  have hm : n % r.cp < r.cp := Nat.mod_lt _ (by omega)
  unfold Tryz.a159 Tryz.a159x0
  refine wp_box H rfl fun p S1 H => ?_
  try(refine zz ?_;(repeat constructor);intro _)
  refine wp_ld (o := 2) (cs := r.cs) H (by repeat (first | exact List.Mem.head _ | apply List.Mem.tail)) rfl ?_
  try(refine zz ?_;(repeat constructor);intro _)
  refine wp_ld (o := 3) (cs := r.cs) H (by repeat (first | exact List.Mem.head _ | apply List.Mem.tail)) rfl ?_
  refine wp_convU r.cp (by omega) ?_
  refine wp_remU (by omega) ?_
  refine wp_convI _ (by omega) ?_
  refine wp_add64 (by omega) (by omega) ?_
  exact wp_ret ⟨rfl, rfl, H.grows⟩
theorem rlap_ok {n : Nat} (hr : r.ok) (hn : n < 18446744073709551616) : wpC EM (.fn (.func 235) [] []) [.agg r.cs, U (n : Int)] S fun v S' => v = Z .u32 (r.lap n : Nat) ∧ Grows S S' := by
  refine wpC_fn (b := Tryz.a235) rfl rfl ?_
  have H : Cx S [] S [] [] := Cx.enter (by simp)
  unfold Rg.ok at hr
  unfold Tryz.a235
  refine wp_box H rfl fun p S1 H => ?_
  try(refine zz ?_;(repeat constructor);intro _)
  refine wp_ld (o := 3) (cs := r.cs) H (by repeat (first | exact List.Mem.head _ | apply List.Mem.tail)) rfl ?_
  refine wp_convU r.cp (by omega) ?_
  refine wp_quoU (by omega) hn ?_
  refine wp_conv32 _ ?_
  exact wp_ret ⟨rfl, rfl, H.grows⟩
theorem and16 {w : Nat} : (w &&& 65536 ≠ 0) ↔ w / 65536 % 2 = 1 := by
  have hb : w.testBit 16 = decide (w / 65536 % 2 = 1) := Nat.testBit_eq_decide_div_mod_eq
  have h2 : ∀ i, (w &&& 65536).testBit i = (w.testBit i && decide (16 = i)) := by
    intro i
    rw [Nat.testBit_and]
    have : (65536 : Nat).testBit i = decide (16 = i) := by
      show (2 ^ 16 : Nat).testBit i = _
      exact Nat.testBit_two_pow
    rw [this]
  constructor
  · intro h
    by_cases e : w / 65536 % 2 = 1
    · exact e
    · refine absurd (Nat.eq_of_testBit_eq fun i => ?_) h
      rw [h2, Nat.zero_testBit]
      by_cases hi : 16 = i
      · rw [← hi, hb, decide_eq_false e]; rfl
      · rw [decide_eq_false hi, Bool.and_false]
  · intro e h
    have := h2 16
    rw [h, Nat.zero_testBit, hb, decide_eq_true e] at this
    simp at this
theorem and15 {w : Nat} : w &&& 65535 = w % 65536 := Nat.and_two_pow_sub_one_eq_mod w 16
theorem rfull_ok {w lap : Nat} (hw : w < 18446744073709551616) : wpC EM (.fn (.func 234) [] []) [U (w : Int), Z .u32 (lap : Int)] S fun v S' => v = B (decide (slFull w lap)) ∧ S' = S := by
  refine wpC_fn (b := Tryz.a234) rfl rfl ?_
  unfold Tryz.a234 Tryz.a234x0
  refine wp_shrU (s := 32) (by omega) (by omega) ?_
  refine wp_conv32 _ ?_
  have e0 : w / 2 ^ 32 % 4294967296 = w / 4294967296 := by omega
  rw [e0]
  by_cases h : w / 4294967296 = lap
  · refine wp_eql_t (by omega) ?_
    try(refine zz ?_;(repeat constructor);intro _)
    refine wp_andU hw (b := 65536) (by omega) ?_
    try(refine zz ?_;(repeat constructor);intro _)
    by_cases h2 : w / 65536 % 2 = 1
    · refine wp_neq_t (by have := and16.2 h2; omega) ?_
      try(refine zz ?_;(repeat constructor);intro _)
      exact wp_ret ⟨rfl, by rw [decide_eq_true (p := slFull w lap) ⟨h, h2⟩]; rfl, rfl⟩
    · refine wp_neq_f (by have : ¬ (w &&& 65536 ≠ 0) := fun q => h2 (and16.1 q); omega) ?_
      try(refine zz ?_;(repeat constructor);intro _)
      exact wp_ret ⟨rfl, by rw [decide_eq_false (p := slFull w lap) (fun q => h2 q.2)]; rfl, rfl⟩
  · refine wp_eql_f (by omega) ?_
    try(refine zz ?_;(repeat constructor);intro _)
    exact wp_ret ⟨rfl, by rw [decide_eq_false (p := slFull w lap) (fun q => h q.1)]; rfl, rfl⟩
theorem rvalue_ok {w : Nat} (hw : w < 18446744073709551616) : wpC EM (.fn (.func 160) [] []) [U (w : Int)] S fun v S' => v = I ((w % 65536 : Nat) : Int) ∧ S' = S := by
  refine wpC_fn (b := Tryz.a160) rfl rfl ?_
  unfold Tryz.a160
  refine wp_andU hw (b := 65535) (by omega) ?_
  rw [and15]
  refine wp_convI _ (by omega) ?_
  exact wp_ret ⟨rfl, rfl, rfl⟩
end
end Go.Abs
namespace Go.Abs
open Go.Proofs
set_option maxRecDepth 100000
set_option linter.unusedVariables false
/-! ### what a ring has -/
def Me.wd (x : Me) (a : Int) : Nat := (x.word a).toNat
theorem Me.wd_eq {x : Me} (h : x.good) (a : Int) : x.word a = (x.wd a : Int) := by
  have := x.word_bd h a
  unfold Me.wd; omega
theorem Me.wd_lt {x : Me} (h : x.good) (a : Int) : x.wd a < 18446744073709551616 := by
  have := x.word_bd h a
  unfold Me.wd; omega
def nums (x : Me) (r : Rg) : Nat → Nat → List Nat
  | 0, _ => []
  | k + 1, n => if slFull (x.wd (r.place n)) (r.lap n) then n :: nums x r k ((n + 1) % 18446744073709551616) else []
theorem nums_yes {x : Me} {r : Rg} {k n : Nat} (h : slFull (x.wd (r.place n)) (r.lap n)) : nums x r (k + 1) n = n :: nums x r k ((n + 1) % 18446744073709551616) := if_pos h
theorem nums_no {x : Me} {r : Rg} {k n : Nat} (h : ¬ slFull (x.wd (r.place n)) (r.lap n)) : nums x r k n = [] := by
  cases k with
  | zero => rfl
  | succ k => exact if_neg h
def ringVals (x : Me) (r : Rg) : List Int := (nums x r r.cp (x.wd r.hd)).map fun n => ((x.wd (r.place n) % 65536 : Nat) : Int)
section
variable {B0 S : AH} {W : List Nat} {own R : List Own} {ro : List Fct} {Q : Post} {k : AV → AC} {r : Rg} {m bl w : Nat} {x : Me} {rest : List AV} {v : AV}
theorem Cx.addNl (H : Cx B0 W S own ro) (es : Nat) : Cx B0 W S (.sl Ns es [] :: own) ro := H.addOwn (Grows.refl S) (.inl ⟨rfl, rfl⟩) (fun id hid => by simp [Own.ids, vids] at hid)
theorem beq_sl {v : AV} {es : Nat} {L : List (List AV)} (h : slOk S v es L) : AV.beq v v = true := by
  rcases h with ⟨rfl, _⟩ | ⟨id, off, c, (⟨_, _, _, rfl⟩ | ⟨_, _, _, rfl⟩), _⟩
  · rfl
  · simp [AV.beq]
  · simp [AV.beq]
def valOf (x : Me) (r : Rg) (n : Nat) : Int := ((x.wd (r.place n) % 65536 : Nat) : Int)
theorem rg_beq : ∀ y ∈ r.cs, AV.beq y y = true := by
  intro y hy
  simp only [Rg.cs, List.mem_cons, List.not_mem_nil, or_false] at hy
  rcases hy with rfl | rfl | rfl | rfl <;> exact beq_num
theorem atC_ok {b : Nat} {vw : AV} {a : Int} (hb : Fct.pt b 0 [vw] ∈ ro) (hv : Fct.sl vw 1 (uints x.ws) ∈ ro) (H : Cx B0 W S own ro) : wpC EM (.fn (.func 157) [] [.ptr b 0]) [I a] S fun u S' => u = U (x.word a) ∧ Grows S S' := by
  refine wpC_fn (b := Tryz.a157) rfl rfl ?_
  unfold Tryz.a157 Tryz.a157x0
  have out : ¬ x.has a → x.word a = 0 := fun h => if_neg h
  refine wp_lss (fun h0 => ?_) (fun h0 => ?_)
  · try(refine zz ?_;(repeat constructor);intro _)
    exact wp_ret ⟨rfl, by rw [out (fun h => by have := h.1; omega)]; rfl, Grows.refl _⟩
  try(refine zz ?_;(repeat constructor);intro _)
  refine wp_ld H hb rfl ?_
  try(refine zz ?_;(repeat constructor);intro _)
  refine wp_len H hv ?_
  rw [uints_len]
  try(refine zz ?_;(repeat constructor);intro _)
  refine wp_geq (fun h1 => ?_) (fun h1 => ?_)
  · try(refine zz ?_;(repeat constructor);intro _)
    exact wp_ret ⟨rfl, by rw [out (fun h => by have := h.2; omega)]; rfl, Grows.refl _⟩
  try(refine zz ?_;(repeat constructor);intro _)
  obtain ⟨n, rfl⟩ : ∃ n : Nat, a = (n : Int) := ⟨a.toNat, by omega⟩
  have hw : x.ws[n]? = some x.ws[n] := List.getElem?_eq_getElem (by omega)
  generalize x.ws[n] = z at hw
  refine wp_ld H hb rfl ?_
  refine wp_saddr H hv (uints_get? hw) fun id off H1 => ?_
  refine wp_load0 H1 (List.Mem.head _) rfl ?_
  exact wp_ret ⟨rfl, by rw [Me.word_eq hw]; rfl, Grows.refl _⟩
theorem beq_clo {f b : Nat} : AV.beq (.fn (.func f) [] [.ptr b 0]) (.fn (.func f) [] [.ptr b 0]) = true := by simp [AV.beq, beqs]
theorem rall_ok (hx : x.good) (hrest : x.ws.length + rest.length = 4096) (hr : r.ok) (H : Cx B0 W S (pMem m bl x rest ++ R) ro) : wpC EM (.fn (.func 84) [] []) [.agg r.cs, .ptr m 0] S fun u S' => Cx B0 W S' (.sl u 1 (ints (ringVals x r)) :: (pMem m bl x rest ++ R)) ro := by
  refine wpC_fn (b := Tryz.a84) rfl rfl ?_
  have hr0 := hr
  unfold Rg.ok at hr
  unfold Tryz.a84 Tryz.a84x6 Tryz.a84x5 Tryz.a84x4 Tryz.a84x3 Tryz.a84x2 Tryz.a84x1 Tryz.a84x0
  refine wp_box H rfl fun p S1 H => ?_
  have H : Cx B0 W S1 (pMem m bl x rest ++ R) (.pt p 0 r.cs :: ro) := H
  refine wp_ldn (o := 0) (n := 4) H (List.Mem.head _) rfl ?_
  have hs : wpC EM (.fn (.func 156) [] []) [.agg r.cs] S1 fun r' S' => r' = B true ∧ Grows S1 S' := by
    refine wpC_fn (b := Tryz.a156) rfl rfl ?_
    clear H
    have H : Cx S1 [] S1 [] [] := Cx.enter (by simp)
    unfold Tryz.a156 Tryz.a156x0
    refine wp_box H rfl fun p S2 H => ?_
    try(refine zz ?_;(repeat constructor);intro _)
    refine wp_ld (o := 3) (cs := r.cs) H (by repeat (first | exact List.Mem.head _ | apply List.Mem.tail)) rfl ?_
    refine wp_geq_t (by omega) ?_
    try(refine zz ?_;(repeat constructor);intro _)
    refine wp_ld (o := 3) (cs := r.cs) H (by repeat (first | exact List.Mem.head _ | apply List.Mem.tail)) rfl ?_
    try(refine zz ?_;(repeat constructor);intro _)
    refine wp_leq_t (by omega) ?_
    try(refine zz ?_;(repeat constructor);intro _)
    exact wp_ret ⟨rfl, rfl, H.grows⟩
  refine wp_callV H hs fun S2 H => ?_
  refine wp_notT ?_
  try(refine zz ?_;(repeat constructor);intro _)
  refine wp_call (wpC_mono (words_ok hx.1 hrest H) fun vw S3 H => ?_)
  have hvw : Fv vw := slOk_one (ownSl_ok (H.oh _ (List.Mem.head _)))
  have H := H.toRo (i := 0) rfl
  have H : Cx B0 W S3 (pMem m bl x rest ++ R) (.sl vw 1 (uints x.ws) :: .pt p 0 r.cs :: ro) := H
  refine wp_alloc H fun b6 S4 H => ?_
  refine wp_set1 (j := 0) H 0 rfl (by simp) hvw fun S5 H => ?_
  have H := H.freeze (i := 0) rfl
  have H : Cx B0 W S5 (pMem m bl x rest ++ R) (.pt b6 0 [vw] :: .sl vw 1 (uints x.ws) :: .pt p 0 r.cs :: ro) := H
  refine wp_alloc H fun b8 S6 H => ?_
  refine wp_set1 (j := 0) H 0 rfl (by simp) fvFn fun S7 H => ?_
  have H := H.freeze (i := 0) rfl
  have H : Cx B0 W S7 (pMem m bl x rest ++ R) (.pt b8 0 [.fn (.func 157) [] [.ptr b6 0]] :: .pt b6 0 [vw] :: .sl vw 1 (uints x.ws) :: .pt p 0 r.cs :: ro) := H
  refine wp_alloc H fun b10 S8 H => ?_
  have H := H.addNl 1
  have H : Cx B0 W S8 (.sl Ns 1 [] :: .obj b10 (.row [Ns]) :: (pMem m bl x rest ++ R)) (.pt b8 0 [.fn (.func 157) [] [.ptr b6 0]] :: .pt b6 0 [vw] :: .sl vw 1 (uints x.ws) :: .pt p 0 r.cs :: ro) := H
  refine wp_ldn (o := 0) (n := 4) (cs := r.cs) H (by repeat (first | exact List.Mem.head _ | apply List.Mem.tail)) rfl ?_
  refine wp_ld H (show Fct.pt b8 0 [.fn (.func 157) [] [.ptr b6 0]] ∈ _ by repeat (first | exact List.Mem.head _ | apply List.Mem.tail)) rfl ?_
  refine wp_call (wpC_fn (b := Tryz.a158) rfl rfl ?_)
  unfold Tryz.a158
  refine wp_box H rfl fun d1 S9 H => ?_
  refine wp_box H rfl fun d2 S9 H => ?_
  have H : Cx B0 W S9 (.sl Ns 1 [] :: .obj b10 (.row [Ns]) :: (pMem m bl x rest ++ R)) (.pt d2 0 [.fn (.func 157) [] [.ptr b6 0]] :: .pt d1 0 r.cs :: .pt b8 0 [.fn (.func 157) [] [.ptr b6 0]] :: .pt b6 0 [vw] :: .sl vw 1 (uints x.ws) :: .pt p 0 r.cs :: ro) := H
  generalize hro : (Fct.pt d2 0 [.fn (.func 157) [] [.ptr b6 0]] :: .pt d1 0 r.cs :: .pt b8 0 [.fn (.func 157) [] [.ptr b6 0]] :: .pt b6 0 [vw] :: .sl vw 1 (uints x.ws) :: .pt p 0 r.cs :: ro) = ro1 at H
  have m2 : Fct.pt d2 0 [.fn (.func 157) [] [.ptr b6 0]] ∈ ro1 := by rw [← hro]; exact (by repeat (first | exact List.Mem.head _ | apply List.Mem.tail))
  have m1 : Fct.pt d1 0 r.cs ∈ ro1 := by rw [← hro]; exact (by repeat (first | exact List.Mem.head _ | apply List.Mem.tail))
  have m8 : Fct.pt b8 0 [.fn (.func 157) [] [.ptr b6 0]] ∈ ro1 := by rw [← hro]; exact (by repeat (first | exact List.Mem.head _ | apply List.Mem.tail))
  have m6 : Fct.pt b6 0 [vw] ∈ ro1 := by rw [← hro]; exact (by repeat (first | exact List.Mem.head _ | apply List.Mem.tail))
  have mw : Fct.sl vw 1 (uints x.ws) ∈ ro1 := by rw [← hro]; exact (by repeat (first | exact List.Mem.head _ | apply List.Mem.tail))
  have mp : Fct.pt p 0 r.cs ∈ ro1 := by rw [← hro]; exact (by repeat (first | exact List.Mem.head _ | apply List.Mem.tail))
  have back : ∀ {S own}, Cx B0 W S own ro1 → Cx B0 W S own ro := fun H => H.dropRo (by rw [← hro]; exact fun φ h => List.mem_cons_of_mem _ (List.mem_cons_of_mem _ (List.mem_cons_of_mem _ (List.mem_cons_of_mem _ (List.mem_cons_of_mem _ (List.mem_cons_of_mem _ h))))))
  clear hro
  refine wp_ret ⟨rfl, ?_⟩
  show wp EM _ _ _
  have hw0 := x.wd_lt hx r.hd
  refine wp_bind (wp_rngX (Done := fun pd S' => pd = none ∧ ∃ s, Cx B0 W S' (.sl s 1 (ints (ringVals x r)) :: .obj b10 (.row [s]) :: (pMem m bl x rest ++ R)) ro1) H (by intro i e; cases e) ?_ ?_ ?_)
  · intro l S10 HL
    clear H
    have hyd : ∀ {n : Nat} {s : AV} {d : List Nat} {S6 : AH}, n < 18446744073709551616 → d.length < 4096 → Cx B0 W S6 (.obj l (.loop .ready none 1 fun v14 => .start (nth v14 0) (.bind (Tryz.a84x2 (.ptr p 0) (.ptr b8 0) (.ptr b10 0) v14) (some 1) (fun v15 => .ret .normal []) (fun v15 => []))) :: .sl s 1 (ints (d.map (valOf x r))) :: .obj b10 (.row [s]) :: (pMem m bl x rest ++ R)) ro1 →
        wpC EM (.yd l) [U (n : Int)] S6 fun v S' => v = B true ∧ ∃ s, Cx B0 W S' (.obj l (.loop .ready none 1 fun v14 => .start (nth v14 0) (.bind (Tryz.a84x2 (.ptr p 0) (.ptr b8 0) (.ptr b10 0) v14) (some 1) (fun v15 => .ret .normal []) (fun v15 => []))) :: .sl s 1 (ints ((d ++ [n]).map (valOf x r))) :: .obj b10 (.row [s]) :: (pMem m bl x rest ++ R)) ro1 := by
      intro n s d S6 hn hd H
      refine wpC_ydO H 0 rfl rfl ?_
      unfold Tryz.a84x2 Tryz.a84x1 Tryz.a84x0
      refine wp_startO H 0 rfl fun S7 H => ?_
      refine wp_bind ?_
      refine wp_row (j := 0) H 2 rfl rfl ?_
      refine wp_ld H m8 rfl ?_
      refine wp_ldn (o := 0) (n := 4) H mp rfl ?_
      refine wp_callV H (rplace_ok hr0 hn) fun S8 H => ?_
      refine wp_cko H 2 rfl rfl (beq_sl (ownSl_ok (H.oh _ (List.Mem.tail _ (List.Mem.head _))))) ?_
      refine wp_ck H m8 rfl beq_clo ?_
      refine wp_callV H (atC_ok m6 mw H) fun S9 H => ?_
      rw [Me.wd_eq hx]
      refine wp_cko H 2 rfl rfl (beq_sl (ownSl_ok (H.oh _ (List.Mem.tail _ (List.Mem.head _))))) ?_
      refine wp_call (wpC_mono (rvalue_ok (x.wd_lt hx _)) fun u S10 q => ?_)
      obtain ⟨rfl, rfl⟩ := q
      refine wp_cko H 2 rfl rfl (beq_sl (ownSl_ok (H.oh _ (List.Mem.tail _ (List.Mem.head _))))) ?_
      have hlen : (ints (d.map (valOf x r))).length = d.length := by rw [ints_len, List.length_map]
      refine wp_push (L := ints (d.map (valOf x r))) H 1 rfl rfl rfl rfl (by rw [hlen]; unfold maxBytes; omega) (by rw [hlen]; unfold maxLenN; omega) fun u2 S11 H => ?_
      have hu : Fv u2 := slOk_one (ownSl_ok (H.oh _ (List.Mem.tail _ (List.Mem.head _))))
      refine wp_set1 (j := 0) H 2 rfl (by simp) hu fun S12 H => ?_
      refine wp_ret ?_
      show wp EM _ _ _
      refine wp_ret ⟨rfl, _, _, H, rfl, fun S2 H => ⟨u2, ?_⟩⟩
      have e : ints ((d ++ [n]).map (valOf x r)) = ints (d.map (valOf x r)) ++ [[I (valOf x r n)]] := by simp [ints]
      rw [e]; exact H
    refine wpC_fn (b := Tryz.a233) rfl rfl ?_
    unfold Tryz.a233 Tryz.a233x6 Tryz.a233x5 Tryz.a233x4 Tryz.a233x3 Tryz.a233x2 Tryz.a233x1 Tryz.a233x0
    refine wp_ld HL m2 rfl ?_
    try(refine zz ?_;(repeat constructor);intro _)
    refine wp_ld (o := 0) HL m1 rfl ?_
    refine wp_callV HL (atC_ok m6 mw HL) fun S11 HL => ?_
    rw [Me.wd_eq hx]
    try(refine zz ?_;(repeat constructor);intro _)
    refine wp_ld (o := 3) HL m1 rfl ?_
    have fin : ∀ {s : AV} {d : List Nat} {S5 : AH}, ringVals x r = d.map (valOf x r) → Cx B0 W S5 (.obj l (.loop .ready none 1 fun v14 => .start (nth v14 0) (.bind (Tryz.a84x2 (.ptr p 0) (.ptr b8 0) (.ptr b10 0) v14) (some 1) (fun v15 => .ret .normal []) (fun v15 => []))) :: .sl s 1 (ints (d.map (valOf x r))) :: .obj b10 (.row [s]) :: (pMem m bl x rest ++ R)) ro1 →
        ∃ st pd m' b', S5.get l = some (.loop st pd m' b') ∧ st ≠ .busy ∧ ∀ S2, S2.next = S5.next → (∀ j, j ≠ l → S2.get j = S5.get j) → pd = none ∧ ∃ s, Cx B0 W S2 (.sl s 1 (ints (ringVals x r)) :: .obj b10 (.row [s]) :: (pMem m bl x rest ++ R)) ro1 := by
      intro s d S5 e H
      rw [e]
      exact ⟨.ready, none, 1, _, H.oh _ (List.Mem.head _), by simp, fun S2 g1 g2 => ⟨rfl, s, H.other (n := 0) rfl g1 g2⟩⟩
    refine wp_bind (wp_loop (wpL_for r.cp (fun i vs S' => ∃ n s d, vs = [I (i : Nat), U (n : Nat)] ∧ n < 18446744073709551616 ∧ d.length = i ∧ nums x r r.cp (x.wd r.hd) = d ++ nums x r (r.cp - i) n ∧ Cx B0 W S' (.obj l (.loop .ready none 1 fun v14 => .start (nth v14 0) (.bind (Tryz.a84x2 (.ptr p 0) (.ptr b8 0) (.ptr b10 0) v14) (some 1) (fun v15 => .ret .normal []) (fun v15 => []))) :: .sl s 1 (ints (d.map (valOf x r))) :: .obj b10 (.row [s]) :: (pMem m bl x rest ++ R)) ro1) ?_ ?_ ⟨_, Ns, [], rfl, hw0, rfl, rfl, HL⟩))
    · rintro i vs S12 hi ⟨n, s, d, rfl, hn, hd, hnum, H⟩
      refine wp_lss_t (by omega) ?_
      try(refine zz ?_;(repeat constructor);intro _)
      refine wp_bind ?_
      refine wp_ld H m2 rfl ?_
      refine wp_ldn (o := 0) (n := 4) H m1 rfl ?_
      refine wp_ldn (o := 0) (n := 4) H m1 rfl ?_
      refine wp_callV H (rplace_ok hr0 hn) fun S13 H => ?_
      refine wp_ck H m2 rfl beq_clo ?_
      refine wp_ckn (n := 4) (cs := r.cs) H m1 rfl rfl rg_beq ?_
      refine wp_callV H (atC_ok m6 mw H) fun S14 H => ?_
      rw [Me.wd_eq hx]
      have hw := x.wd_lt hx (r.place n)
      refine wp_ckn (n := 4) (cs := r.cs) H m1 rfl rfl rg_beq ?_
      refine wp_callV H (rlap_ok hr0 hn) fun S15 H => ?_
      refine wp_call (wpC_mono (rfull_ok hw) fun u1 S16 q => ?_)
      obtain ⟨rfl, rfl⟩ := q
      refine wp_not ?_
      by_cases hf : slFull (x.wd (r.place n)) (r.lap n)
      · rw [decide_eq_true hf]
        try(refine zz ?_;(repeat constructor);intro _)
        refine wp_call (wpC_mono (hyd hn (by omega) H) fun u2 S17 q => ?_)
        obtain ⟨rfl, s2, H⟩ := q
        try(refine zz ?_;(repeat constructor);intro _)
        refine wp_notT ?_
        try(refine zz ?_;(repeat constructor);intro _)
        refine wp_addU ?_
        refine wp_ret ?_
        show wp EM _ _ _
        refine wp_add64 (by omega) (by omega) ?_
        refine wp_ret (.inl ⟨rfl, _, s2, d ++ [n], rfl, Nat.mod_lt _ (by omega), by simp [hd], ?_, H⟩)
        rw [hnum, show r.cp - i = (r.cp - (i + 1)) + 1 by omega, nums_yes hf]; simp
      · rw [decide_eq_false hf]
        try(refine zz ?_;(repeat constructor);intro _)
        refine wp_ret (.inr ⟨by simp, ?_⟩)
        rw [nums_no hf, List.append_nil] at hnum
        exact ⟨rfl, fin (by unfold ringVals; rw [hnum]; rfl) H⟩
    · rintro vs S12 ⟨n, s, d, rfl, hn, hd, hnum, H⟩
      refine wp_lss_f (by omega) ?_
      try(refine zz ?_;(repeat constructor);intro _)
      refine wp_ret ⟨by simp, ?_⟩
      show wp EM _ _ _
      rw [Nat.sub_self, show nums x r 0 n = [] from rfl, List.append_nil] at hnum
      exact wp_ret ⟨rfl, fin (by unfold ringVals; rw [hnum]; rfl) H⟩
  · rintro S11 ⟨_, s, H⟩
    refine wp_ret ?_
    show wp EM _ _ _
    refine wp_row (j := 0) H 1 rfl rfl ?_
    exact wp_ret ⟨rfl, back (H.dropAt 1)⟩
  · rintro t S11 ⟨e, _⟩; cases e
end
end Go.Abs
namespace Go.Abs
open Go.Proofs
set_option maxRecDepth 100000
set_option linter.unusedVariables false
/-! ### mailboxes: what waits -/
def rgOf (a r c : Int) : Rg := ⟨ringAt a r c, ringAt a r c + 1, ringAt a r c + 2, r.toNat⟩
theorem rgOf_cs {a r c : Int} (h : 0 ≤ r) : (rgOf a r c).cs = ringCs a r c := by
  have : ((r.toNat : Nat) : Int) = r := by omega
  show [_, _, _, I ((r.toNat : Nat) : Int)] = _
  rw [this]; rfl
theorem rgOf_ok {a n r c : Int} (h : mailQ a n r) (h0 : 0 ≤ c) (h1 : c < n) : (rgOf a r c).ok := by
  obtain ⟨m1, m2, m3, m4⟩ := ringAt_bd h h0 h1
  unfold mailQ mailP at h
  unfold Rg.ok rgOf
  refine ⟨?_, ?_, ?_, ?_⟩
  · show 1 ≤ r.toNat; omega
  · show r.toNat ≤ 4096; omega
  · show 0 ≤ ringAt a r c + 2; omega
  · show ringAt a r c + 2 ≤ 1000000; omega
section
variable {B0 S : AH} {W : List Nat} {own R : List Own} {ro : List Fct} {Q : Post} {k : AV → AC} {m bl w : Nat} {x : Me} {rest : List AV} {v : AV} {a n r : Int}
end
end Go.Abs
namespace Go.Abs
open Go.Proofs
set_option maxRecDepth 100000
set_option linter.unusedVariables false
open Tsk (Tk tks tchk)
/-! ### flags -/
section
variable {B0 S : AH} {W : List Nat} {own R : List Own} {ro : List Fct} {Q : Post} {k : AV → AC} {m bl w : Nat} {x : Me} {rest : List AV} {v : AV} {a f n : Int}
theorem sizedR_ok (h : 1 ≤ n ∧ n ≤ 64) : wpC EM (.fn (.func 70) [] []) [.agg [I a, I f, I n]] S fun u S' => u = B true ∧ Grows S S' := by
  refine wpC_fn (b := Tryz.a70) rfl rfl ?_
  have H : Cx S [] S [] [] := Cx.enter (by simp)
  unfold Tryz.a70 Tryz.a70x0
  refine wp_box H rfl fun p S1 H => ?_
  try(refine zz ?_;(repeat constructor);intro _)
  refine wp_ld (o := 2) (cs := [I a, I f, I n]) H (by repeat (first | exact List.Mem.head _ | apply List.Mem.tail)) rfl ?_
  refine wp_geq_t h.1 ?_
  try(refine zz ?_;(repeat constructor);intro _)
  refine wp_ld (o := 2) (cs := [I a, I f, I n]) H (by repeat (first | exact List.Mem.head _ | apply List.Mem.tail)) rfl ?_
  try(refine zz ?_;(repeat constructor);intro _)
  refine wp_leq_t h.2 ?_
  try(refine zz ?_;(repeat constructor);intro _)
  exact wp_ret ⟨rfl, rfl, H.grows⟩
end
end Go.Abs
