/- functions of this cut: what they compute, in the abstract machine. Conditions: stated in each theorem -/
import Derived.Test.YtlafihfoofnmaaaGreatE2
set_option linter.unusedVariables false
set_option linter.unusedSimpArgs false
namespace Go.Abs
open Go.Proofs
set_option maxRecDepth 100000
set_option linter.unusedVariables false
theorem wrapU {n : Nat} (h : n < 18446744073709551616) : wrapF .u64 (n : Int) = (n : Int) := by
  rw [wrapF_eq]
  show (n : Int) % 18446744073709551616 = n
  omega
section
variable {M : Mach} {S : AH} {Q : Post} {k : AV → AC}
theorem wp_shlU {κ : IntKind} {n s : Nat} (hs : s ≤ 64) (hn : n * 2 ^ s < 18446744073709551616) (h : wp M (k (U ((n * 2 ^ s : Nat) : Int))) S Q) : wp M (.op (.bin .shl (U (n : Int)) (Z κ (s : Int))) k) S Q := wp_op (v := U ((n * 2 ^ s : Nat) : Int)) (by
  show pur (if ltF (s : Int) 0 then none else some (AV.sc (.int .u64 (wrapF .u64 ((n : Int) * 2 ^ (min (s : Int).toNat IntKind.u64.bits)))))) S = _
  rw [ltF_eq, if_neg (by simp)]
  have e : min (s : Int).toNat IntKind.u64.bits = s := by show min (s : Int).toNat 64 = s; omega
  rw [e]
  have e2 : (n : Int) * 2 ^ s = ((n * 2 ^ s : Nat) : Int) := by simp
  rw [e2, wrapU hn]; rfl) h
theorem wp_orU {a b : Nat} (ha : a < 18446744073709551616) (hb : b < 18446744073709551616) (h : wp M (k (U ((a ||| b : Nat) : Int))) S Q) : wp M (.op (.bin .or (U (a : Int)) (U (b : Int))) k) S Q := wp_op (v := U ((a ||| b : Nat) : Int)) (by
  show pur (bOr (U (a : Int)) (U (b : Int))) S = _
  unfold bOr
  simp only [int2, asInt, vInt, kindEq_refl]
  have e : (BitVec.ofInt IntKind.u64.bits (a : Int) ||| BitVec.ofInt IntKind.u64.bits (b : Int)).toNat = a ||| b := by
    rw [BitVec.toNat_or]
    have x : ∀ n : Nat, n < 18446744073709551616 → (BitVec.ofInt IntKind.u64.bits (n : Int)).toNat = n := by
      intro n hn
      show (BitVec.ofInt 64 (n : Int)).toNat = n
      rw [BitVec.ofInt_natCast, BitVec.toNat_ofNat]
      exact Nat.mod_eq_of_lt hn
    rw [x a ha, x b hb]
  have hor : a ||| b < 18446744073709551616 := Nat.or_lt_two_pow (n := 64) ha hb
  show pur (some (AV.sc (.int .u64 (wrapF .u64 ((BitVec.ofInt IntKind.u64.bits (a : Int) ||| BitVec.ofInt IntKind.u64.bits (b : Int)).toNat : Nat))))) S = _
  rw [e, wrapU hor]; rfl) h
end
theorem or_hi {a b i : Nat} (hb : b < 2 ^ i) : a * 2 ^ i ||| b = a * 2 ^ i + b := by
  have := Nat.shiftLeft_add_eq_or_of_lt hb a
  rw [Nat.shiftLeft_eq] at this
  exact this.symm
theorem or_lo {a b i : Nat} (hb : b < 2 ^ i) : b ||| a * 2 ^ i = a * 2 ^ i + b := by rw [Nat.or_comm]; exact or_hi hb

def inP (t : Int × Int × Int) : Prop := t.2.1 ≤ t.1 ∧ t.1 ≤ t.2.2
instance (t : Int × Int × Int) : Decidable (inP t) := by unfold inP; infer_instance
def prs3 (l : List (Int × Int × Int)) : List (List AV) := l.map fun t => [I t.1, I t.2.1, I t.2.2]
theorem prs3_len (l : List (Int × Int × Int)) : (prs3 l).length = l.length := List.length_map ..
theorem prs3_get {l : List (Int × Int × Int)} {i : Nat} (hi : i < l.length) : (prs3 l)[i]? = some [I l[i].1, I l[i].2.1, I l[i].2.2] := by simp [prs3, hi]
theorem within_ok {S : AH} {v : AV} {l : List (Int × Int × Int)} (hv : RoSl S v 3 (prs3 l)) (hl : l.length < 1000) : wpC EM (.fn (.func 176) [] []) [v] S fun r S' => r = B (decide (∀ t ∈ l, inP t)) ∧ Grows S S' := by
  refine wpC_fn (b := Tryz.a176) rfl rfl ?_
  have H := Cx.ro1 hv
  unfold Tryz.a176 Tryz.a176x4 Tryz.a176x3 Tryz.a176x2 Tryz.a176x1 Tryz.a176x0
  refine wp_len H (by repeat (first | exact List.Mem.head _ | apply List.Mem.tail)) ?_
  rw [prs3_len]
  refine wp_bind (wp_loop (wpL_for l.length (fun i vs S1 => ∃ u : AV, vs = [I (i : Int), u] ∧ (∀ t ∈ l.take i, inP t) ∧ Cx S [] S1 [] [.sl v 3 (prs3 l)]) ?_ ?_ ⟨_, rfl, by simp, H⟩))
  · rintro i vs S1 hlt ⟨u, rfl, hpre, H⟩
    refine wp_lss_t (by omega) ?_
    try(refine zz ?_;(repeat constructor);intro _)
    refine wp_bind ?_
    refine wp_saddr (i := i) H (by repeat (first | exact List.Mem.head _ | apply List.Mem.tail)) (prs3_get hlt) fun p off H => ?_
    refine wp_loada H (cs := [I l[i].1, I l[i].2.1, I l[i].2.2]) (by repeat (first | exact List.Mem.head _ | apply List.Mem.tail)) (Nat.le_of_ble_eq_true rfl) ?_
    refine wp_alloc H fun b S3 H => ?_
    refine wp_store H 0 rfl rfl rfl (Nat.le_of_ble_eq_true rfl) fun S4 H => ?_
    replace H : Cx S [] S4 [] [.pt b 0 [I l[i].1, I l[i].2.1, I l[i].2.2], .pt p off [I l[i].1, I l[i].2.1, I l[i].2.2], .sl v 3 (prs3 l)] := H.freeze (i := 0) (c := [I l[i].1, I l[i].2.1, I l[i].2.2]) rfl
    try(refine zz ?_;(repeat constructor);intro _)
    refine wp_load1 H (cs := [I l[i].1, I l[i].2.1, I l[i].2.2]) (by repeat (first | exact List.Mem.head _ | apply List.Mem.tail)) rfl ?_
    try(refine zz ?_;(repeat constructor);intro _)
    refine wp_load1 H (cs := [I l[i].1, I l[i].2.1, I l[i].2.2]) (by repeat (first | exact List.Mem.head _ | apply List.Mem.tail)) rfl ?_
    refine wp_lss (fun h1 => ?_) (fun h1 => ?_)
    · try(refine zz ?_;(repeat constructor);intro _)
      refine wp_ret (.inr ⟨by simp, rfl, ?_, H.grows⟩)
      rw [decide_eq_false (fun h => by have := (h l[i] (List.getElem_mem hlt)).1; omega)]; rfl
    · try(refine zz ?_;(repeat constructor);intro _)
      refine wp_load1 H (cs := [I l[i].1, I l[i].2.1, I l[i].2.2]) (by repeat (first | exact List.Mem.head _ | apply List.Mem.tail)) rfl ?_
      try(refine zz ?_;(repeat constructor);intro _)
      refine wp_load1 H (cs := [I l[i].1, I l[i].2.1, I l[i].2.2]) (by repeat (first | exact List.Mem.head _ | apply List.Mem.tail)) rfl ?_
      try(refine zz ?_;(repeat constructor);intro _)
      refine wp_gtr (fun h2 => ?_) (fun h2 => ?_)
      · try(refine zz ?_;(repeat constructor);intro _)
        refine wp_ret (.inr ⟨by simp, rfl, ?_, H.grows⟩)
        rw [decide_eq_false (fun h => by have := (h l[i] (List.getElem_mem hlt)).2; omega)]; rfl
      · try(refine zz ?_;(repeat constructor);intro _)
        refine wp_ret ?_
        show wp EM _ _ _
        refine wp_add64 (by omega) (by omega) (wp_ret (.inl ⟨rfl, _, rfl, fun t ht => ?_, H.tl.tl⟩))
        rw [List.take_succ_eq_append_getElem hlt, List.mem_append, List.mem_singleton] at ht
        rcases ht with ht | rfl
        · exact hpre t ht
        · exact ⟨h1, h2⟩
  · rintro vs S1 ⟨u, rfl, hpre, H⟩
    refine wp_lss_f (by omega) ?_
    try(refine zz ?_;(repeat constructor);intro _)
    refine wp_ret ⟨by simp, wp_ret ⟨rfl, ?_, H.grows⟩⟩
    rw [List.take_length] at hpre
    rw [decide_eq_true hpre]; rfl
theorem with_ok {S : AH} {w n s m : Nat} (hw : w < 18446744073709551616) (hn : n * 2 ^ s < 18446744073709551616) (hs : s ≤ 64) (hn0 : n < 18446744073709551616) : wpC EM (.fn (.func 248) [] []) [U (w : Int), .agg [I (s : Int), I (m : Int)], I (n : Int)] S fun r S' => r = U ((w ||| n * 2 ^ s : Nat) : Int) ∧ Grows S S' := by
  refine wpC_fn (b := Tryz.a248) rfl rfl ?_
  have H : Cx S [] S [] [] := Cx.enter (by simp)
  unfold Tryz.a248
  refine wp_box H rfl fun b S1 H => ?_
  replace H : Cx S [] S1 [] [.pt b 0 [I (s : Int), I (m : Int)]] := H
  refine wp_convU n hn0 ?_
  try(refine zz ?_;(repeat constructor);intro _)
  refine wp_load1 H (cs := [I (s : Int), I (m : Int)]) (by repeat (first | exact List.Mem.head _ | apply List.Mem.tail)) rfl ?_
  refine wp_shlU hs hn ?_
  refine wp_orU hw hn ?_
  exact wp_ret ⟨rfl, rfl, H.grows⟩
theorem lay2_ok {S : AH} {v v' : AV} {r s : Nat} (hv : RoSl S v 2 [[I 0, I 16], [I 16, I 48]]) (hv' : RoSl S v' 1 [[I (r : Int)], [I (s : Int)]]) (hr : r < 65536) (hs : s < 281474976710656) :
    wpC EM (.fn (.func 177) [] []) [v, v'] S fun x S' => x = U ((s * 65536 + r : Nat) : Int) ∧ Grows S S' := by
  refine wpC_fn (b := Tryz.a177) rfl rfl ?_
  have H := Cx.ro2 hv hv'
  unfold Tryz.a177 Tryz.a177x3 Tryz.a177x2 Tryz.a177x1 Tryz.a177x0
  refine wp_len (v := v) (es := 2) (L := [[I 0, I 16], [I 16, I 48]]) H (by repeat (first | exact List.Mem.head _ | apply List.Mem.tail)) ?_
  refine wp_bind (wp_loop (wpL_for 2 (fun i vs S1 => vs = [I (i : Int), U (((if i = 0 then 0 else if i = 1 then r else s * 65536 + r) : Nat) : Int)] ∧ Cx S [] S1 [] [.sl v 2 [[I 0, I 16], [I 16, I 48]], .sl v' 1 [[I (r : Int)], [I (s : Int)]]]) ?_ ?_ ⟨rfl, H⟩))
  · rintro i vs S1 hlt ⟨rfl, H⟩
    refine wp_lss_t (by show (i : Int) < 2; omega) ?_
    try(refine zz ?_;(repeat constructor);intro _)
    refine wp_bind ?_
    have hcase : i = 0 ∨ i = 1 := by omega
    rcases hcase with rfl | rfl
    · refine wp_saddr (v := v) (L := [[I 0, I 16], [I 16, I 48]]) (i := 0) (x := [I 0, I 16]) H (by repeat (first | exact List.Mem.head _ | apply List.Mem.tail)) rfl fun q off H => ?_
      refine wp_loada H (cs := [I 0, I 16]) (by repeat (first | exact List.Mem.head _ | apply List.Mem.tail)) (Nat.le_of_ble_eq_true rfl) ?_
      refine wp_alloc H fun b S3 H => ?_
      refine wp_store H 0 rfl rfl rfl (Nat.le_of_ble_eq_true rfl) fun S4 H => ?_
      replace H := H.freeze (i := 0) (c := [I 0, I 16]) rfl
      refine wp_loada H (cs := [I 0, I 16]) (by repeat (first | exact List.Mem.head _ | apply List.Mem.tail)) (Nat.le_of_ble_eq_true rfl) ?_
      refine wp_saddr (v := v') (L := [[I (r : Int)], [I (s : Int)]]) (i := 0) (x := [I (r : Int)]) H (by repeat (first | exact List.Mem.head _ | apply List.Mem.tail)) rfl fun q' off' H => ?_
      refine wp_load0 H (cs := [I (r : Int)]) (by repeat (first | exact List.Mem.head _ | apply List.Mem.tail)) rfl ?_
      refine wp_callV H (with_ok (w := 0) (n := r) (s := 0) (m := 16) (by omega) (by omega) (by omega) (by omega)) fun S5 H => ?_
      refine wp_ret ?_
      show wp EM _ _ _
      refine wp_add64 (by omega) (by omega) (wp_ret (.inl ⟨rfl, ?_, H.dropRo (by simp)⟩))
      have e : 0 ||| r * 2 ^ 0 = r := by simp
      rw [e]; rfl
    · refine wp_saddr (v := v) (L := [[I 0, I 16], [I 16, I 48]]) (i := 1) (x := [I 16, I 48]) H (by repeat (first | exact List.Mem.head _ | apply List.Mem.tail)) rfl fun q off H => ?_
      refine wp_loada H (cs := [I 16, I 48]) (by repeat (first | exact List.Mem.head _ | apply List.Mem.tail)) (Nat.le_of_ble_eq_true rfl) ?_
      refine wp_alloc H fun b S3 H => ?_
      refine wp_store H 0 rfl rfl rfl (Nat.le_of_ble_eq_true rfl) fun S4 H => ?_
      replace H := H.freeze (i := 0) (c := [I 16, I 48]) rfl
      refine wp_loada H (cs := [I 16, I 48]) (by repeat (first | exact List.Mem.head _ | apply List.Mem.tail)) (Nat.le_of_ble_eq_true rfl) ?_
      refine wp_saddr (v := v') (L := [[I (r : Int)], [I (s : Int)]]) (i := 1) (x := [I (s : Int)]) H (by repeat (first | exact List.Mem.head _ | apply List.Mem.tail)) rfl fun q' off' H => ?_
      refine wp_load0 H (cs := [I (s : Int)]) (by repeat (first | exact List.Mem.head _ | apply List.Mem.tail)) rfl ?_
      refine wp_callV H (with_ok (w := r) (n := s) (s := 16) (m := 48) (by omega) (by omega) (by omega) (by omega)) fun S5 H => ?_
      refine wp_ret ?_
      show wp EM _ _ _
      refine wp_add64 (by omega) (by omega) (wp_ret (.inl ⟨rfl, ?_, H.dropRo (by simp)⟩))
      rw [or_lo (by omega)]; rfl
  · rintro vs S1 ⟨rfl, H⟩
    refine wp_lss_f (by show (2 : Int) ≤ ((2 : Nat) : Int); omega) ?_
    try(refine zz ?_;(repeat constructor);intro _)
    refine wp_ret ⟨by simp, wp_ret ⟨rfl, rfl, H.grows⟩⟩
def topTab : List AV := [I 0, I 16, I 16, I 48]
theorem tops_ok {S : AH} : wpC EM (.fn (.func 284) [] []) [] S fun r S' => r = .agg topTab ∧ Grows S S' := by
  refine wpC_fn (b := Tryz.a284) rfl rfl ?_
  have H : Cx S [] S [] [] := Cx.enter (by simp)
  unfold Tryz.a284 Tryz.a284x0
  refine wp_fin ?_
  refine wp_alloc H fun b S1 H => ?_
  refine wp_op (v := .agg [I 0, I 16]) rfl ?_
  refine wp_op (v := .agg [I 16, I 48]) rfl ?_
  refine wp_op (v := .agg topTab) rfl ?_
  refine wp_store (v := .agg topTab) H 0 rfl rfl rfl (Nat.le_of_ble_eq_true rfl) fun S2 H => ?_
  refine wp_ret ⟨.inr rfl, ?_⟩
  refine wp_loadoa (n := 4) H 0 rfl (Nat.le_of_ble_eq_true rfl) ?_
  exact wp_ret ⟨rfl, rfl, H.grows⟩
theorem putTop_ok {S : AH} {i t : Int} (hi : -1 ≤ i ∧ i ≤ 65534) (ht : 0 ≤ t ∧ t ≤ 281474976710655) : wpC EM (.fn (.func 283) [] []) [.agg [I i, I t]] S fun v S' => v = .tup [U (t * 65536 + (i + 1)), I 0] ∧ Grows S S' := by
  refine wpC_fn (b := Tryz.a283) rfl rfl ?_
  have H : Cx S [] S [] [] := Cx.enter (by simp)
  unfold Tryz.a283 Tryz.a283x2 Tryz.a283x1 Tryz.a283x0
  refine wp_box H rfl fun b S1 H => ?_
  replace H : Cx S [] S1 [] [.pt b 0 [I i, I t]] := H
  try(refine zz ?_;(repeat constructor);intro _)
  refine wp_load1 H (cs := [I i, I t]) (by repeat (first | exact List.Mem.head _ | apply List.Mem.tail)) rfl ?_
  refine wp_op (v := .agg [I i, I (-1), I 65534]) rfl ?_
  try(refine zz ?_;(repeat constructor);intro _)
  refine wp_load1 H (cs := [I i, I t]) (by repeat (first | exact List.Mem.head _ | apply List.Mem.tail)) rfl ?_
  refine wp_op (v := .agg [I t, I 0, I 281474976710655]) rfl ?_
  refine wp_litsG H (prs3 [(i, -1, 65534), (t, 0, 281474976710655)]) rfl rfl rfl (by simp [prs3]) fun w S2 H => ?_
  replace H := H.toRo (i := 0) rfl
  refine wp_callV H (within_ok (l := [(i, -1, 65534), (t, 0, 281474976710655)]) (H.roSl (List.Mem.head _)) (by simp)) fun S3 H => ?_
  rw [decide_eq_true (by unfold inP; simp; omega)]
  refine wp_notT ?_
  try(refine zz ?_;(repeat constructor);intro _)
  obtain ⟨r', hr'⟩ : ∃ n : Nat, i + 1 = n := ⟨(i + 1).toNat, by omega⟩
  obtain ⟨t', rfl⟩ : ∃ n : Nat, t = n := ⟨t.toNat, by omega⟩
  refine wp_callV H tops_ok fun S4 H => ?_
  refine wp_alloc H fun o S5 H => ?_
  refine wp_store (v := .agg topTab) H 0 rfl rfl rfl (Nat.le_of_ble_eq_true rfl) fun S6 H => ?_
  have hob : S6.get o = some (.row topTab) := H.oh _ (List.Mem.head _)
  replace H := H.freeze (i := 0) (c := topTab) rfl
  refine wp_op (v := .sl o 0 2 2) rfl ?_
  have hpt := (H.ri (.pt o 0 topTab) (List.Mem.head _))
  replace H := H.addRo (φ := .sl (.sl o 0 2 2) 2 [[I 0, I 16], [I 16, I 48]]) (.inr ⟨o, 0, topTab, .inl ⟨2, Nat.le_refl _, Nat.le_refl _, rfl⟩, row_cells hob, rfl, by simp⟩) (fun id hid => hpt id hid)
  try(refine zz ?_;(repeat constructor);intro _)
  refine wp_load1 H (cs := [I i, I (t' : Int)]) (by repeat (first | exact List.Mem.head _ | apply List.Mem.tail)) rfl ?_
  refine wp_add64 (by omega) (by omega) ?_
  try(refine zz ?_;(repeat constructor);intro _)
  refine wp_load1 H (cs := [I i, I (t' : Int)]) (by repeat (first | exact List.Mem.head _ | apply List.Mem.tail)) rfl ?_
  rw [hr']
  refine wp_litsG H [[I (r' : Int)], [I (t' : Int)]] rfl rfl rfl (by simp) fun w2 S7 H => ?_
  replace H := H.toRo (i := 0) rfl
  refine wp_callV H (lay2_ok (r := r') (s := t') (H.roSl (by repeat (first | exact List.Mem.head _ | apply List.Mem.tail))) (H.roSl (List.Mem.head _)) (by omega) (by omega)) fun S7 H => ?_
  refine wp_ret ⟨rfl, ?_, H.grows⟩
  show AV.tup [_, _] = _
  rw [show ((t' * 65536 + r' : Nat) : Int) = (t' : Int) * 65536 + r' by omega]
theorem link_ok {S : AH} {i : Int} (hi : -1 ≤ i ∧ i ≤ 65534) : wpC EM (.fn (.func 230) [] []) [I i] S fun v S' => v = U (i + 1) ∧ Grows S S' := by
  refine wpC_fn (b := Tryz.a230) rfl rfl ?_
  have H : Cx S [] S [] [] := Cx.enter (by simp)
  unfold Tryz.a230
  refine wp_op (v := .agg [I i, I 0]) rfl ?_
  refine wp_callV H (putTop_ok hi (by omega)) fun S1 H => ?_
  try(refine zz ?_;(repeat constructor);intro _)
  exact wp_ret ⟨rfl, by rw [show (0 : Int) * 65536 + (i + 1) = i + 1 by omega]; rfl, H.grows⟩
theorem jlay_ok {S : AH} : wpC EM (.fn (.func 148) [] []) [.agg [I 1, I 0, I 1]] S fun v S' => v = U 4294967297 ∧ Grows S S' := by
  refine wpC_fn (b := Tryz.a148) rfl rfl ?_
  have H : Cx S [] S [] [] := Cx.enter (by simp)
  unfold Tryz.a148 Tryz.a148x1 Tryz.a148x0
  refine wp_box H rfl fun b S1 H => ?_
  replace H : Cx S [] S1 [] [.pt b 0 [I 1, I 0, I 1]] := H
  try(refine zz ?_;(repeat constructor);intro _)
  refine wp_ld (o := 0) H (by repeat (first | exact List.Mem.head _ | apply List.Mem.tail)) rfl ?_
  refine wp_convU 1 (by omega) ?_
  try(refine zz ?_;(repeat constructor);intro _)
  refine wp_ld (o := 1) H (by repeat (first | exact List.Mem.head _ | apply List.Mem.tail)) rfl ?_
  refine wp_convU 0 (by omega) ?_
  refine wp_shlU (n := 0) (s := 8) (by omega) (by omega) ?_
  refine wp_orU (a := 1) (b := 0) (by omega) (by omega) ?_
  try(refine zz ?_;(repeat constructor);intro _)
  refine wp_ld (o := 2) H (by repeat (first | exact List.Mem.head _ | apply List.Mem.tail)) rfl ?_
  refine wp_convU 1 (by omega) ?_
  refine wp_shlU (n := 1) (s := 32) (by omega) (by omega) ?_
  refine wp_orU (a := 1) (b := 4294967296) (by omega) (by omega) ?_
  exact wp_ret ⟨rfl, rfl, H.grows⟩
end Go.Abs
namespace Go.Abs
open Go.Proofs
set_option maxRecDepth 100000
set_option linter.unusedVariables false
/-! ### stores -/
structure Mv (lo hi c : Int) (x y : Me) : Prop where
  len : y.ws.length = x.ws.length
  good : y.good
  n : y.n ≤ x.n + c
  out : ∀ a, (a < lo ∨ hi ≤ a) → y.word a = x.word a
theorem Mv.refl {lo hi : Int} {x : Me} (h : x.good) : Mv lo hi 0 x x := ⟨rfl, h, by omega, fun _ _ => rfl⟩
theorem Mv.trans {lo hi c d : Int} {x y z : Me} (h : Mv lo hi c x y) (k : Mv lo hi d y z) : Mv lo hi (c + d) x z :=
  ⟨by rw [k.len, h.len], k.good, by have := h.n; have := k.n; omega, fun a ha => by rw [k.out a ha, h.out a ha]⟩
theorem Mv.mono {lo hi c lo' hi' c' : Int} {x y : Me} (h : Mv lo hi c x y) (h1 : lo' ≤ lo) (h2 : hi ≤ hi') (h3 : c ≤ c') : Mv lo' hi' c' x y :=
  ⟨h.len, h.good, by have := h.n; omega, fun a ha => h.out a (by omega)⟩
theorem acc_word {x : Me} {a z b : Int} : (x.acc 2 a z true).word b = if x.has a ∧ b = a then z else x.word b := by
  unfold Me.acc
  by_cases ha : x.has a
  · rw [if_pos ha]
    generalize x.word a = old
    unfold Me.word
    by_cases hb : x.has b
    · rw [if_pos (show (Me.mk (x.ws.set a.toNat z) 2 a old z true (x.n + 1)).has b from ⟨hb.1, by rw [List.length_set]; exact hb.2⟩), if_pos hb]
      unfold Me.has at ha hb
      rw [List.getElem?_set]
      by_cases e : b = a
      · subst e
        rw [if_pos rfl, if_pos (by omega), if_pos ⟨hb, rfl⟩]; rfl
      · rw [if_neg (by omega), if_neg (fun h => e h.2)]
    · rw [if_neg (show ¬ (Me.mk (x.ws.set a.toNat z) 2 a old z true (x.n + 1)).has b from fun h => hb ⟨h.1, by have := h.2; rw [List.length_set] at this; exact this⟩), if_neg hb, if_neg (show ¬ (x.has a ∧ b = a) from fun h => hb (h.2 ▸ h.1))]
  · rw [if_neg ha, if_neg (fun h => ha h.1)]; rfl
theorem acc_mv {x : Me} {a z : Int} (hx : x.good) (hn : x.n ≤ 1000000) (hz : 0 ≤ z ∧ z < 18446744073709551616) : Mv a (a + 1) 1 x (x.acc 2 a z true) := by
  have hl : (x.acc 2 a z true).ws.length = x.ws.length := by unfold Me.acc; split <;> simp
  have hnn : (x.acc 2 a z true).n = x.n + 1 := by unfold Me.acc; split <;> rfl
  refine ⟨hl, ⟨?_, ?_⟩, by omega, fun b hb => ?_⟩
  · have := hx.1
    unfold Me.wf at *
    omega
  · intro w hw
    unfold Me.acc at hw
    split at hw
    · rcases List.mem_or_eq_of_mem_set hw with hw | rfl
      · exact hx.2 w hw
      · exact hz
    · exact hx.2 w hw
  · rw [acc_word, if_neg (by omega)]
section
variable {B0 S : AH} {W : List Nat} {own R : List Own} {ro : List Fct} {Q : Post} {k : AV → AC} {m bl : Nat} {x : Me} {rest : List AV}
theorem stM_ok {a z : Int} (hx : x.good) (hn : x.n ≤ 1000000) (hz : 0 ≤ z ∧ z < 18446744073709551616) (H : Cx B0 W S (pMem m bl x rest ++ R) ro) : wpC EM (.fn (.func 76) [] []) [.ptr m 0, I a, U z] S fun r S' => ∃ y, Mv a (a + 1) 1 x y ∧ (x.has a → y.word a = z) ∧ Cx B0 W S' (pMem m bl y rest ++ R) ro :=
  wpC_mono (store_ok' hx.1 H) fun r S' H => ⟨_, acc_mv hx hn hz, fun h => by rw [acc_word, if_pos ⟨h, rfl⟩], H⟩
theorem swap1 {P : Own} {A R : List Own} : (P :: (A ++ R)).Perm (A ++ P :: R) := List.perm_middle.symm
theorem stP_ok {P : Own} {a z : Int} (hx : x.good) (hn : x.n ≤ 1000000) (hz : 0 ≤ z ∧ z < 18446744073709551616) (H : Cx B0 W S (P :: (pMem m bl x rest ++ R)) ro) : wpC EM (.fn (.func 76) [] []) [.ptr m 0, I a, U z] S fun r S' => ∃ y, Mv a (a + 1) 1 x y ∧ (x.has a → y.word a = z) ∧ Cx B0 W S' (P :: (pMem m bl y rest ++ R)) ro :=
  wpC_mono (stM_ok (R := P :: R) hx hn hz (H.permS swap1)) fun r S' ⟨y, h1, h2, H⟩ => ⟨y, h1, h2, H.permS swap1.symm⟩
/-! ### what is laid -/
theorem fillS_ok {a b : Int} {n : Nat} {lo hi : Int} (hx : x.good) (hn : x.n ≤ 900000) (h1 : 1 ≤ n ∧ n ≤ 4096) (ha : lo ≤ a ∧ a < hi ∧ 0 ≤ a ∧ a ≤ 100000) (hb : lo ≤ b ∧ b + n ≤ hi ∧ 0 ≤ b ∧ b ≤ 100000) (H : Cx B0 W S (pMem m bl x rest ++ R) ro) :
    wpC EM (.fn (.func 147) [] []) [.agg [I a, I b, I n], .ptr m 0] S fun r S' => ∃ y, Mv lo hi (n + 1) x y ∧ Cx B0 W S' (pMem m bl y rest ++ R) ro := by
  refine wpC_fn (b := Tryz.a147) rfl rfl ?_
  unfold Tryz.a147 Tryz.a147x6 Tryz.a147x5 Tryz.a147x4 Tryz.a147x3 Tryz.a147x2 Tryz.a147x1 Tryz.a147x0
  refine wp_box H rfl fun p S1 H => ?_
  have H : Cx B0 W S1 (pMem m bl x rest ++ R) (.pt p 0 [I a, I b, I (n : Int)] :: ro) := H
  have mp : Fct.pt p 0 [I a, I b, I (n : Int)] ∈ (.pt p 0 [I a, I b, I (n : Int)] :: ro) := List.Mem.head _
  refine wp_ldn (o := 0) (n := 3) H mp rfl ?_
  refine wp_callV H (sizedS_ok (by omega)) fun S2 H => ?_
  refine wp_notT ?_
  try(refine zz ?_;(repeat constructor);intro _)
  refine wp_ld (o := 0) H mp rfl ?_
  refine wp_callV H (link_ok (i := 0) (by omega)) fun S3 H => ?_
  refine wp_ck (o := 0) H mp rfl beq_num ?_
  refine wp_call (wpC_mono (stM_ok hx (by omega) (by omega) H) fun r S4 q => ?_)
  obtain ⟨y, m1, _, H⟩ := q
  try(refine zz ?_;(repeat constructor);intro _)
  refine wp_ld (o := 2) H mp rfl ?_
  refine wp_bind (wp_loop (wpL_for n (fun i vs S' => ∃ u y, vs = [I (i : Int), u] ∧ Mv lo hi (i + 1) x y ∧ Cx B0 W S' (pMem m bl y rest ++ R) (.pt p 0 [I a, I b, I (n : Int)] :: ro)) ?_ ?_ ⟨_, y, rfl, m1.mono (by omega) (by omega) (by omega), H⟩))
  · clear m1 H
    rintro i vs S5 hlt ⟨u, y, rfl, my, H⟩
    refine wp_lss_t (by omega) ?_
    try(refine zz ?_;(repeat constructor);intro _)
    refine wp_bind ?_
    refine wp_add64 (by omega) (by omega) ?_
    try(refine zz ?_;(repeat constructor);intro _)
    refine wp_ld (o := 2) H mp rfl ?_
    have tail : ∀ (e : Int), -1 ≤ e ∧ e ≤ 65534 → wp EM (.op (.faddr 1 (.ptr p 0)) fun v18 => .op (.load 1 false v18) fun v19 => .op (.bin .add v19 (I (i : Int))) fun v20 => .call (.fn (.func 230) [] []) [I e] fun v21 => .chk (.load 1 false v18) v19 (.call (.fn (.func 76) [] []) [.ptr m 0, v20, v21] fun v22 => .ret .normal [I e])) S5
        fun tg vs S' => tg = .normal ∧ ∃ u, vs = [u] ∧ ∃ y, Mv lo hi ((i + 1 : Nat) + 1) x y ∧ Cx B0 W S' (pMem m bl y rest ++ R) (.pt p 0 [I a, I b, I (n : Int)] :: ro) := by
      intro e he
      try(refine zz ?_;(repeat constructor);intro _)
      refine wp_ld (o := 1) H mp rfl ?_
      refine wp_add64 (by omega) (by omega) ?_
      refine wp_callV H (link_ok he) fun S6 H => ?_
      refine wp_ck (o := 1) H mp rfl beq_num ?_
      refine wp_call (wpC_mono (stM_ok my.good (by have := my.n; omega) (by omega) H) fun r S7 q => ?_)
      obtain ⟨y2, m2, _, H⟩ := q
      exact wp_ret ⟨rfl, _, rfl, y2, (my.trans (m2.mono (by omega) (by omega) (Int.le_refl _))).mono (by omega) (by omega) (by omega), H⟩
    refine wp_eql (fun he => ?_) (fun he => ?_)
    · refine wp_bind ?_
      try(refine zz ?_;(repeat constructor);intro _)
      refine wp_ret ?_
      show wp EM _ _ _
      refine wp_mono (tail (-1) (by omega)) fun tg vs S' q => ?_
      obtain ⟨rfl, u, rfl, y2, my2, H⟩ := q
      show wp EM _ _ _
      refine wp_add64 (by omega) (by omega) ?_
      exact wp_ret (.inl ⟨rfl, _, y2, rfl, my2, H⟩)
    · refine wp_bind ?_
      try(refine zz ?_;(repeat constructor);intro _)
      refine wp_ret ?_
      show wp EM _ _ _
      refine wp_mono (tail ((i : Int) + 1) (by omega)) fun tg vs S' q => ?_
      obtain ⟨rfl, u, rfl, y2, my2, H⟩ := q
      show wp EM _ _ _
      refine wp_add64 (by omega) (by omega) ?_
      exact wp_ret (.inl ⟨rfl, _, y2, rfl, my2, H⟩)
  · rintro vs S5 ⟨u, y, rfl, my, H⟩
    refine wp_lss_f (by omega) ?_
    try(refine zz ?_;(repeat constructor);intro _)
    refine wp_ret ⟨by simp, ?_⟩
    show wp EM _ _ _
    exact wp_ret ⟨rfl, y, my, H.tl⟩
end
end Go.Abs
namespace Go.Abs
open Go.Proofs
set_option maxRecDepth 100000
set_option linter.unusedVariables false
section
variable {B0 S : AH} {W : List Nat} {own R : List Own} {ro : List Fct} {Q : Post} {k : AV → AC} {m bl : Nat} {x : Me} {rest : List AV} {N C h n J Rm : Nat} {lim : Int}
theorem fillA_ok (hx : x.good) (hn : x.n ≤ 800000) (hN : 1 ≤ N ∧ N ≤ 128) (H : Cx B0 W S (pMem m bl x rest ++ R) ro) :
    wpC EM (.fn (.func 226) [] []) [.agg (toL N C h lim).ab, .ptr m 0] S fun r S' => ∃ y, Mv 0 (2 + 2 * N) (2 * N + 2) x y ∧ Cx B0 W S' (pMem m bl y rest ++ R) ro := by
  refine wpC_fn (b := Tryz.a226) rfl rfl ?_
  unfold Tryz.a226 Tryz.a226x4 Tryz.a226x3 Tryz.a226x2 Tryz.a226x1 Tryz.a226x0
  refine wp_box H rfl fun p S1 H => ?_
  have H : Cx B0 W S1 (pMem m bl x rest ++ R) (.pt p 0 (toL N C h lim).ab :: ro) := H
  have mp : Fct.pt p 0 (toL N C h lim).ab ∈ (.pt p 0 (toL N C h lim).ab :: ro) := List.Mem.head _
  refine wp_ldn (o := 0) (n := 6) H mp rfl ?_
  refine wp_callV H (sizedA_ok (n := N) (by omega)) fun S2 H => ?_
  refine wp_notT ?_
  try(refine zz ?_;(repeat constructor);intro _)
  refine wp_ldn (o := 0) (n := 3) H mp rfl ?_
  refine wp_call (wpC_mono (fillS_ok (a := 0) (b := 1) (n := N) (lo := 0) (hi := 2 + 2 * N) hx (by omega) (by omega) (by omega) (by omega) H) fun r S4 q => ?_)
  obtain ⟨y, m1, H⟩ := q
  try(refine zz ?_;(repeat constructor);intro _)
  refine wp_ld (o := 4) H mp rfl ?_
  refine wp_call (wpC_mono (stM_ok (a := 1 + 2 * N) m1.good (by have := m1.n; omega) (by omega) H) fun r S5 q => ?_)
  obtain ⟨y2, m2, _, H⟩ := q
  try(refine zz ?_;(repeat constructor);intro _)
  refine wp_ld (o := 2) H mp rfl ?_
  refine wp_bind (wp_loop (wpL_for N (fun i vs S' => ∃ y, vs = [I (i : Int)] ∧ Mv 0 (2 + 2 * N) (N + 2 + i) x y ∧ Cx B0 W S' (pMem m bl y rest ++ R) (.pt p 0 (toL N C h lim).ab :: ro)) ?_ ?_ ⟨y2, rfl, (m1.trans (m2.mono (by omega) (by omega) (Int.le_refl _))).mono (by omega) (by omega) (by omega), H⟩))
  · clear m1 m2 H
    rintro i vs S5 hlt ⟨y, rfl, my, H⟩
    refine wp_lss_t (by show (i : Int) < (N : Int); omega) ?_
    try(refine zz ?_;(repeat constructor);intro _)
    refine wp_bind ?_
    try(refine zz ?_;(repeat constructor);intro _)
    refine wp_ld (o := 3) H mp rfl ?_
    refine wp_add64 (by show _ ≤ (1 + N + i : Int); omega) (by show (1 + N + i : Int) ≤ _; omega) ?_
    refine wp_call (wpC_mono (stM_ok (a := 1 + N + i) my.good (by have := my.n; omega) (by omega) H) fun r S7 q => ?_)
    obtain ⟨y2, m2, _, H⟩ := q
    refine wp_ret ?_
    show wp EM _ _ _
    refine wp_add64 (by omega) (by omega) ?_
    exact wp_ret (.inl ⟨rfl, y2, rfl, (my.trans (m2.mono (by omega) (by omega) (Int.le_refl _))).mono (by omega) (by omega) (by omega), H⟩)
  · rintro vs S5 ⟨y, rfl, my, H⟩
    refine wp_lss_f (by show (N : Int) ≤ (N : Int); omega) ?_
    try(refine zz ?_;(repeat constructor);intro _)
    refine wp_ret ⟨by simp, ?_⟩
    show wp EM _ _ _
    exact wp_ret ⟨rfl, y, my.mono (by omega) (by omega) (by omega), H.tl⟩
theorem fillE_ok {a b : Int} {lo hi : Int} (hx : x.good) (hn : x.n ≤ 800000) (h1 : 1 ≤ n ∧ n ≤ 64) (ha : lo ≤ a ∧ a < hi ∧ 0 ≤ a ∧ a ≤ 100000) (hb : lo ≤ b ∧ b + n ≤ hi ∧ 0 ≤ b ∧ b ≤ 100000) (H : Cx B0 W S (pMem m bl x rest ++ R) ro) :
    wpC EM (.fn (.func 227) [] []) [.agg [I a, I b, I n], .ptr m 0] S fun r S' => ∃ y, Mv lo hi (n + 1) x y ∧ Cx B0 W S' (pMem m bl y rest ++ R) ro := by
  refine wpC_fn (b := Tryz.a227) rfl rfl ?_
  unfold Tryz.a227 Tryz.a227x2 Tryz.a227x1
  refine wp_box H rfl fun p S1 H => ?_
  refine wp_box H rfl fun pm S1 H => ?_
  have H : Cx B0 W S1 (pMem m bl x rest ++ R) (.pt pm 0 [.ptr m 0] :: .pt p 0 [I a, I b, I (n : Int)] :: ro) := H
  refine wp_ldn (o := 0) (n := 3) (cs := [I a, I b, I (n : Int)]) H (by repeat (first | exact List.Mem.head _ | apply List.Mem.tail)) rfl ?_
  refine wp_callV H (sizedE_ok (by omega)) fun S2 H => ?_
  refine wp_notT ?_
  try(refine zz ?_;(repeat constructor);intro _)
  refine wp_ld (o := 0) H (List.Mem.head _) rfl ?_
  try(refine zz ?_;(repeat constructor);intro _)
  refine wp_ld (o := 0) (cs := [I a, I b, I (n : Int)]) H (by repeat (first | exact List.Mem.head _ | apply List.Mem.tail)) rfl ?_
  refine wp_call (wpC_mono (stM_ok hx (by omega) (by omega) H) fun r S4 q => ?_)
  obtain ⟨y, m1, _, H⟩ := q
  refine wp_ldn (o := 0) (n := 3) (cs := [I a, I b, I (n : Int)]) H (by repeat (first | exact List.Mem.head _ | apply List.Mem.tail)) rfl ?_
  refine wp_call (wpC_fn (b := Tryz.a282) rfl rfl ?_)
  unfold Tryz.a282
  refine wp_box H rfl fun pb S4 H => ?_
  have H : Cx B0 W S4 (pMem m bl y rest ++ R) (.pt pb 0 [I a, I b, I (n : Int)] :: .pt pm 0 [.ptr m 0] :: .pt p 0 [I a, I b, I (n : Int)] :: ro) := H
  have back : ∀ {S own}, Cx B0 W S own (.pt pb 0 [I a, I b, I (n : Int)] :: .pt pm 0 [.ptr m 0] :: .pt p 0 [I a, I b, I (n : Int)] :: ro) → Cx B0 W S own ro := fun H => H.tl.tl.tl
  have mb : Fct.pt pb 0 [I a, I b, I (n : Int)] ∈ (.pt pb 0 [I a, I b, I (n : Int)] :: .pt pm 0 [.ptr m 0] :: .pt p 0 [I a, I b, I (n : Int)] :: ro) := by repeat (first | exact List.Mem.head _ | apply List.Mem.tail)
  have mm : Fct.pt pm 0 [.ptr m 0] ∈ (.pt pb 0 [I a, I b, I (n : Int)] :: .pt pm 0 [.ptr m 0] :: .pt p 0 [I a, I b, I (n : Int)] :: ro) := by repeat (first | exact List.Mem.head _ | apply List.Mem.tail)
  generalize (Fct.pt pb 0 [I a, I b, I (n : Int)] :: .pt pm 0 [.ptr m 0] :: .pt p 0 [I a, I b, I (n : Int)] :: ro) = ro1 at H back mb mm
  refine wp_ret ⟨rfl, ?_⟩
  show wp EM _ _ _
  refine wp_bind (wp_rngO H (by intro i e; cases e) (fun S' => ∃ y, Mv lo hi (n + 1) x y ∧ Cx B0 W S' (pMem m bl y rest ++ R) ro1) ?_ ?_)
  · intro l S5 HL
    clear H
    refine wpC_fn (b := Tryz.a317) rfl rfl ?_
    unfold Tryz.a317 Tryz.a317x2 Tryz.a317x1 Tryz.a317x0
    try(refine zz ?_;(repeat constructor);intro _)
    refine wp_ld (o := 2) HL mb rfl ?_
    refine wp_bind (wp_loop (wpL_for n (fun i vs S' => ∃ y, vs = [I (i : Int)] ∧ Mv lo hi (i + 1) x y ∧ Cx B0 W S' (.obj l (.loop .ready none 2 fun v12 => Tryz.a227x0 (.ptr pm 0) v12) :: (pMem m bl y rest ++ R)) ro1) ?_ ?_ ⟨y, rfl, m1.mono (by omega) (by omega) (by omega), HL⟩))
    · clear HL m1
      rintro i vs S6 hlt ⟨y, rfl, my, H⟩
      refine wp_lss_t (by omega) ?_
      try(refine zz ?_;(repeat constructor);intro _)
      refine wp_bind ?_
      try(refine zz ?_;(repeat constructor);intro _)
      refine wp_ld (o := 1) H mb rfl ?_
      refine wp_add64 (by omega) (by omega) ?_
      refine wp_call (wpC_mono (wpC_ydO (R := fun S' => ∃ y, Mv lo hi ((i + 1 : Nat) + 1) x y ∧ Cx B0 W S' (.obj l (.loop .ready none 2 fun v12 => Tryz.a227x0 (.ptr pm 0) v12) :: (pMem m bl y rest ++ R)) ro1) H 0 rfl rfl ?_) fun u2 S17 q => ?_)
      · unfold Tryz.a227x0
        refine wp_startO H 0 rfl fun S9 H => ?_
        refine wp_bind ?_
        refine wp_ld (o := 0) H mm rfl ?_
        refine wp_call (wpC_mono (stP_ok (a := b + i) my.good (by have := my.n; omega) (by omega) H) fun r S7 q => ?_)
        obtain ⟨y2, m2, _, H⟩ := q
        refine wp_ret ?_
        show wp EM _ _ _
        exact wp_ret ⟨rfl, _, _, H, rfl, fun S2 H => ⟨y2, (my.trans (m2.mono (by omega) (by omega) (Int.le_refl _))).mono (by omega) (by omega) (by omega), H⟩⟩
      · obtain ⟨rfl, y2, my2, H⟩ := q
        refine wp_notT ?_
        try(refine zz ?_;(repeat constructor);intro _)
        refine wp_ret ?_
        show wp EM _ _ _
        refine wp_add64 (by omega) (by omega) ?_
        exact wp_ret (.inl ⟨rfl, y2, rfl, my2, H⟩)
    · rintro vs S6 ⟨y, rfl, my, H⟩
      refine wp_lss_f (by omega) ?_
      try(refine zz ?_;(repeat constructor);intro _)
      refine wp_ret ⟨by simp, ?_⟩
      show wp EM _ _ _
      exact wp_ret ⟨rfl, H.oh _ (List.Mem.head _), fun S2 g1 g2 => ⟨y, my, H.other (n := 0) rfl g1 g2⟩⟩
  · rintro S5 ⟨y, my, H⟩
    refine wp_ret ?_
    show wp EM _ _ _
    exact wp_ret ⟨rfl, y, my, back H⟩
theorem turn_ok {i : Int} (hN : 1 ≤ N ∧ N ≤ 128) (hC : C ≤ 64) (hi : 0 ≤ i ∧ i ≤ 2) : wpC EM (.fn (.func 228) [] []) [I i, .agg (toL N C h lim).lb] S fun r S' => r = .agg [I (3 + 2 * N + C + i), I 1, I N] ∧ Grows S S' := by
  refine wpC_fn (b := Tryz.a228) rfl rfl ?_
  have H : Cx S [] S [] [] := Cx.enter (by simp)
  unfold Tryz.a228 Tryz.a228x1 Tryz.a228x0
  refine wp_fin ?_
  refine wp_box H rfl fun p S1 H => ?_
  refine wp_alloc H fun q S2 H => ?_
  have H : Cx S [] S2 [.obj q (.row [I 0, I 0, I 0])] [.pt p 0 (toL N C h lim).lb] := H
  have mp : Fct.pt p 0 (toL N C h lim).lb ∈ [Fct.pt p 0 (toL N C h lim).lb] := List.Mem.head _
  try(refine zz ?_;(repeat constructor);intro _)
  refine wp_ld (o := 9) H mp rfl ?_
  refine wp_add64 (by show _ ≤ (3 + 2 * N + C + i : Int); omega) (by show (3 + 2 * N + C + i : Int) ≤ _; omega) ?_
  try(refine zz ?_;(repeat constructor);intro _)
  refine wp_ld (o := 1) H mp rfl ?_
  try(refine zz ?_;(repeat constructor);intro _)
  refine wp_ld (o := 2) H mp rfl ?_
  refine wp_op (v := .agg [I (3 + 2 * N + C + i), I 1, I N]) rfl ?_
  refine wp_store (n := 3) H 0 (c := [I 0, I 0, I 0]) rfl rfl rfl (by simp) fun S3 H => ?_
  have H : Cx S [] S3 [.obj q (.row [I (3 + 2 * N + C + i), I 1, I N])] [.pt p 0 (toL N C h lim).lb] := H
  refine wp_ret ⟨.inr rfl, ?_⟩
  refine wp_loadoa (n := 3) H 0 rfl (by simp) ?_
  exact wp_ret ⟨rfl, rfl, H.grows⟩
theorem fillL_ok (hx : x.good) (hn : x.n ≤ 700000) (hN : 1 ≤ N ∧ N ≤ 128) (hC : 1 ≤ C ∧ C ≤ 64) (H : Cx B0 W S (pMem m bl x rest ++ R) ro) :
    wpC EM (.fn (.func 145) [] []) [.agg (toL N C h lim).lb, .ptr m 0] S fun r S' => ∃ y, Mv 0 (6 + 2 * N + C) (2 * N + C + 6) x y ∧ Cx B0 W S' (pMem m bl y rest ++ R) ro := by
  refine wpC_fn (b := Tryz.a145) rfl rfl ?_
  unfold Tryz.a145 Tryz.a145x3 Tryz.a145x2 Tryz.a145x1 Tryz.a145x0
  refine wp_box H rfl fun p S1 H => ?_
  have H : Cx B0 W S1 (pMem m bl x rest ++ R) (.pt p 0 (toL N C h lim).lb :: ro) := H
  have mp : Fct.pt p 0 (toL N C h lim).lb ∈ (.pt p 0 (toL N C h lim).lb :: ro) := List.Mem.head _
  try(refine zz ?_;(repeat constructor);intro _)
  refine wp_ldn (o := 0) (n := 6) H mp rfl ?_
  refine wp_call (wpC_mono (fillA_ok (N := N) (C := C) (h := h) (lim := lim) hx (by omega) hN H) fun r S4 q => ?_)
  obtain ⟨y, m1, H⟩ := q
  try(refine zz ?_;(repeat constructor);intro _)
  refine wp_ldn (o := 6) (n := 3) H mp rfl ?_
  refine wp_call (wpC_mono (fillE_ok (a := 2 + 2 * N) (b := 3 + 2 * N) (n := C) (lo := 0) (hi := 6 + 2 * N + C) m1.good (by have := m1.n; omega) hC (by omega) (by omega) H) fun r S4 q => ?_)
  obtain ⟨y2, m2, H⟩ := q
  refine wp_bind (wp_loop (wpL_for 3 (fun i vs S' => ∃ y, vs = [I (i : Int)] ∧ Mv 0 (6 + 2 * N + C) (2 * N + C + 3 + i) x y ∧ Cx B0 W S' (pMem m bl y rest ++ R) (.pt p 0 (toL N C h lim).lb :: ro)) ?_ ?_ ⟨y2, rfl, ((m1.mono (Int.le_refl _) (by omega) (Int.le_refl _)).trans m2).mono (by omega) (by omega) (by omega), H⟩))
  · clear m1 m2 H
    rintro i vs S5 hlt ⟨y, rfl, my, H⟩
    refine wp_lss_t (by omega) ?_
    try(refine zz ?_;(repeat constructor);intro _)
    refine wp_bind ?_
    refine wp_ldn (o := 0) (n := 10) H mp rfl ?_
    refine wp_callV H (turn_ok (N := N) (C := C) (h := h) (lim := lim) hN hC.2 (by omega)) fun S6 H => ?_
    refine wp_op (v := I (3 + 2 * N + C + i)) rfl ?_
    refine wp_call (wpC_mono (stM_ok (a := 3 + 2 * N + C + i) my.good (by have := my.n; omega) (by omega) H) fun r S7 q => ?_)
    obtain ⟨y2, m2, _, H⟩ := q
    refine wp_ret ?_
    show wp EM _ _ _
    refine wp_add64 (by omega) (by omega) ?_
    exact wp_ret (.inl ⟨rfl, y2, rfl, (my.trans (m2.mono (by omega) (by omega) (Int.le_refl _))).mono (by omega) (by omega) (by omega), H⟩)
  · rintro vs S5 ⟨y, rfl, my, H⟩
    refine wp_lss_f (by omega) ?_
    try(refine zz ?_;(repeat constructor);intro _)
    refine wp_ret ⟨by simp, ?_⟩
    show wp EM _ _ _
    exact wp_ret ⟨rfl, y, my.mono (by omega) (by omega) (by omega), H.tl⟩
theorem fillT_ok (hx : x.good) (hn : x.n ≤ 600000) (hN : 1 ≤ N ∧ N ≤ 128) (hC : 1 ≤ C ∧ C ≤ 64) (hh : 1 ≤ h ∧ h ≤ 4) (hlen : 6 + 2 * N + C + h ≤ x.ws.length) (H : Cx B0 W S (pMem m bl x rest ++ R) ro) :
    wpC EM (.fn (.func 71) [] []) [.agg (toL N C h lim).cs, .ptr m 0] S fun r S' => ∃ y, Mv 0 (6 + 2 * N + C + h) (2 * N + C + 6 + h) x y ∧ (∀ k : Nat, k < h → y.word (6 + 2 * N + C + k) = 0) ∧ Cx B0 W S' (pMem m bl y rest ++ R) ro := by
  refine wpC_fn (b := Tryz.a71) rfl rfl ?_
  unfold Tryz.a71 Tryz.a71x3 Tryz.a71x2 Tryz.a71x1 Tryz.a71x0
  refine wp_box H rfl fun p S1 H => ?_
  have H : Cx B0 W S1 (pMem m bl x rest ++ R) (.pt p 0 (toL N C h lim).cs :: ro) := H
  have mp : Fct.pt p 0 (toL N C h lim).cs ∈ (.pt p 0 (toL N C h lim).cs :: ro) := List.Mem.head _
  refine wp_ldn (o := 0) (n := 13) H mp rfl ?_
  refine wp_callV H (sound_ok (t := toL N C h lim)) fun S2 H => ?_
  rw [decide_eq_true (toL_ok hN hC.2 hh)]
  refine wp_notT ?_
  try(refine zz ?_;(repeat constructor);intro _)
  refine wp_ldn (o := 3) (n := 10) H mp rfl ?_
  refine wp_call (wpC_mono (fillL_ok (N := N) (C := C) (h := h) (lim := lim) hx (by omega) hN hC H) fun r S4 q => ?_)
  obtain ⟨y, m1, H⟩ := q
  try(refine zz ?_;(repeat constructor);intro _)
  refine wp_ld (o := 2) H mp rfl ?_
  refine wp_bind (wp_loop (wpL_for h (fun i vs S' => ∃ y, vs = [I (i : Int)] ∧ Mv 0 (6 + 2 * N + C + h) (2 * N + C + 6 + i) x y ∧ (∀ k : Nat, k < i → y.word (6 + 2 * N + C + k) = 0) ∧ Cx B0 W S' (pMem m bl y rest ++ R) (.pt p 0 (toL N C h lim).cs :: ro)) ?_ ?_ ⟨y, rfl, m1.mono (by omega) (by omega) (by omega), fun k hk => by omega, H⟩))
  · clear m1 H
    rintro i vs S5 hlt ⟨y, rfl, my, hz, H⟩
    refine wp_lss_t (by show (i : Int) < (h : Int); omega) ?_
    try(refine zz ?_;(repeat constructor);intro _)
    refine wp_bind ?_
    try(refine zz ?_;(repeat constructor);intro _)
    refine wp_ld (o := 1) H mp rfl ?_
    refine wp_add64 (by show _ ≤ (6 + 2 * N + C + i : Int); omega) (by show (6 + 2 * N + C + i : Int) ≤ _; omega) ?_
    refine wp_call (wpC_mono (stM_ok (a := 6 + 2 * N + C + i) my.good (by have := my.n; omega) (by omega) H) fun r S7 q => ?_)
    obtain ⟨y2, m2, hv, H⟩ := q
    refine wp_ret ?_
    show wp EM _ _ _
    refine wp_add64 (by omega) (by omega) ?_
    refine wp_ret (.inl ⟨rfl, y2, rfl, (my.trans (m2.mono (by omega) (by omega) (Int.le_refl _))).mono (by omega) (by omega) (by omega), fun k hk => ?_, H⟩)
    by_cases e : k = i
    · subst e; exact hv ⟨by omega, by rw [my.len]; omega⟩
    · rw [m2.out _ (by omega)]; exact hz k (by omega)
  · rintro vs S5 ⟨y, rfl, my, hz, H⟩
    refine wp_lss_f (by show (h : Int) ≤ (h : Int); omega) ?_
    try(refine zz ?_;(repeat constructor);intro _)
    refine wp_ret ⟨by simp, ?_⟩
    show wp EM _ _ _
    exact wp_ret ⟨rfl, y, my.mono (by omega) (by omega) (by omega), hz, H.tl⟩
end
end Go.Abs
namespace Go.Abs
open Go.Proofs
set_option maxRecDepth 100000
set_option linter.unusedVariables false
open Tsk (Tk tks tchk)
section
variable {B0 S : AH} {W : List Nat} {own R : List Own} {ro : List Fct} {Q : Post} {k : AV → AC} {m bl : Nat} {x : Me} {rest : List AV} {N C h n J Rm : Nat} {lim : Int}
theorem fillG_ok {g : Int} (hx : x.good) (hn : x.n ≤ 500000) (h1 : 1 ≤ n ∧ n ≤ 32) (hg : 0 ≤ g ∧ g ≤ 100000) (H : Cx B0 W S (pMem m bl x rest ++ R) ro) :
    wpC EM (.fn (.func 72) [] []) [.agg [I g, I n], .ptr m 0] S fun r S' => ∃ y, Mv g (g + n) n x y ∧ Cx B0 W S' (pMem m bl y rest ++ R) ro := by
  refine wpC_fn (b := Tryz.a72) rfl rfl ?_
  unfold Tryz.a72 Tryz.a72x1
  refine wp_box H rfl fun p S1 H => ?_
  refine wp_box H rfl fun pm S1 H => ?_
  have H : Cx B0 W S1 (pMem m bl x rest ++ R) (.pt pm 0 [.ptr m 0] :: .pt p 0 [I g, I (n : Int)] :: ro) := H
  refine wp_ldn (o := 0) (n := 2) (cs := [I g, I (n : Int)]) H (by repeat (first | exact List.Mem.head _ | apply List.Mem.tail)) rfl ?_
  refine wp_callV H (sizedG_ok (by omega)) fun S2 H => ?_
  refine wp_notT ?_
  try(refine zz ?_;(repeat constructor);intro _)
  refine wp_ldn (o := 0) (n := 2) (cs := [I g, I (n : Int)]) H (by repeat (first | exact List.Mem.head _ | apply List.Mem.tail)) rfl ?_
  refine wp_call (wpC_fn (b := Tryz.a146) rfl rfl ?_)
  unfold Tryz.a146
  refine wp_box H rfl fun pb S4 H => ?_
  have H : Cx B0 W S4 (pMem m bl x rest ++ R) (.pt pb 0 [I g, I (n : Int)] :: .pt pm 0 [.ptr m 0] :: .pt p 0 [I g, I (n : Int)] :: ro) := H
  have back : ∀ {S own}, Cx B0 W S own (.pt pb 0 [I g, I (n : Int)] :: .pt pm 0 [.ptr m 0] :: .pt p 0 [I g, I (n : Int)] :: ro) → Cx B0 W S own ro := fun H => H.tl.tl.tl
  have mb : Fct.pt pb 0 [I g, I (n : Int)] ∈ (.pt pb 0 [I g, I (n : Int)] :: .pt pm 0 [.ptr m 0] :: .pt p 0 [I g, I (n : Int)] :: ro) := by repeat (first | exact List.Mem.head _ | apply List.Mem.tail)
  have mm : Fct.pt pm 0 [.ptr m 0] ∈ (.pt pb 0 [I g, I (n : Int)] :: .pt pm 0 [.ptr m 0] :: .pt p 0 [I g, I (n : Int)] :: ro) := by repeat (first | exact List.Mem.head _ | apply List.Mem.tail)
  generalize (Fct.pt pb 0 [I g, I (n : Int)] :: .pt pm 0 [.ptr m 0] :: .pt p 0 [I g, I (n : Int)] :: ro) = ro1 at H back mb mm
  refine wp_ret ⟨rfl, ?_⟩
  show wp EM _ _ _
  refine wp_bind (wp_rngO H (by intro i e; cases e) (fun S' => ∃ y, Mv g (g + n) n x y ∧ Cx B0 W S' (pMem m bl y rest ++ R) ro1) ?_ ?_)
  · intro l S5 HL
    clear H
    refine wpC_fn (b := Tryz.a229) rfl rfl ?_
    unfold Tryz.a229 Tryz.a229x2 Tryz.a229x1 Tryz.a229x0
    try(refine zz ?_;(repeat constructor);intro _)
    refine wp_ld (o := 1) HL mb rfl ?_
    refine wp_bind (wp_loop (wpL_for n (fun i vs S' => ∃ y, vs = [I (i : Int)] ∧ Mv g (g + n) i x y ∧ Cx B0 W S' (.obj l (.loop .ready none 1 fun v8 => Tryz.a72x0 (.ptr pm 0) v8) :: (pMem m bl y rest ++ R)) ro1) ?_ ?_ ⟨x, rfl, Mv.refl hx, HL⟩))
    · clear HL
      rintro i vs S6 hlt ⟨y, rfl, my, H⟩
      refine wp_lss_t (by omega) ?_
      try(refine zz ?_;(repeat constructor);intro _)
      refine wp_bind ?_
      try(refine zz ?_;(repeat constructor);intro _)
      refine wp_ld (o := 0) H mb rfl ?_
      refine wp_add64 (by omega) (by omega) ?_
      refine wp_call (wpC_mono (wpC_ydO (R := fun S' => ∃ y, Mv g (g + n) (i + 1 : Nat) x y ∧ Cx B0 W S' (.obj l (.loop .ready none 1 fun v8 => Tryz.a72x0 (.ptr pm 0) v8) :: (pMem m bl y rest ++ R)) ro1) H 0 rfl rfl ?_) fun u2 S17 q => ?_)
      · unfold Tryz.a72x0
        refine wp_startO H 0 rfl fun S9 H => ?_
        refine wp_bind ?_
        refine wp_ld (o := 0) H mm rfl ?_
        refine wp_call (wpC_mono (stP_ok (a := g + i) my.good (by have := my.n; omega) (by omega) H) fun r S7 q => ?_)
        obtain ⟨y2, m2, _, H⟩ := q
        refine wp_ret ?_
        show wp EM _ _ _
        exact wp_ret ⟨rfl, _, _, H, rfl, fun S2 H => ⟨y2, (my.trans (m2.mono (by omega) (by omega) (Int.le_refl _))).mono (by omega) (by omega) (by omega), H⟩⟩
      · obtain ⟨rfl, y2, my2, H⟩ := q
        refine wp_notT ?_
        try(refine zz ?_;(repeat constructor);intro _)
        refine wp_ret ?_
        show wp EM _ _ _
        refine wp_add64 (by omega) (by omega) ?_
        exact wp_ret (.inl ⟨rfl, y2, rfl, my2, H⟩)
    · rintro vs S6 ⟨y, rfl, my, H⟩
      refine wp_lss_f (by omega) ?_
      try(refine zz ?_;(repeat constructor);intro _)
      refine wp_ret ⟨by simp, ?_⟩
      show wp EM _ _ _
      exact wp_ret ⟨rfl, H.oh _ (List.Mem.head _), fun S2 g1 g2 => ⟨y, my, H.other (n := 0) rfl g1 g2⟩⟩
  · rintro S5 ⟨y, my, H⟩
    refine wp_ret ?_
    show wp EM _ _ _
    exact wp_ret ⟨rfl, y, my, back H⟩
theorem fillJ_ok {j : Int} (hx : x.good) (hn : x.n ≤ 400000) (hJ : 1 ≤ J ∧ J ≤ 64) (hj : 0 ≤ j ∧ j ≤ 90000) (hlen : j + 3 * J + 1 ≤ x.ws.length) (H : Cx B0 W S (pMem m bl x rest ++ R) ro) :
    wpC EM (.fn (.func 73) [] []) [.agg [I j, I (j + J), I (j + 2 * J), I (j + 2 * J + 1), I (J : Int)], .ptr m 0] S fun r S' => ∃ y, Mv j (j + 3 * J + 1) (3 * J + 1) x y ∧ (∀ k : Nat, k < J → y.word (j + k) = 4294967297) ∧ Cx B0 W S' (pMem m bl y rest ++ R) ro := by
  refine wpC_fn (b := Tryz.a73) rfl rfl ?_
  unfold Tryz.a73 Tryz.a73x5 Tryz.a73x4 Tryz.a73x3 Tryz.a73x2 Tryz.a73x1 Tryz.a73x0
  refine wp_box H rfl fun p S1 H => ?_
  have H : Cx B0 W S1 (pMem m bl x rest ++ R) (.pt p 0 [I j, I (j + J), I (j + 2 * J), I (j + 2 * J + 1), I (J : Int)] :: ro) := H
  have mp : Fct.pt p 0 [I j, I (j + J), I (j + 2 * J), I (j + 2 * J + 1), I (J : Int)] ∈ (.pt p 0 [I j, I (j + J), I (j + 2 * J), I (j + 2 * J + 1), I (J : Int)] :: ro) := List.Mem.head _
  refine wp_ldn (o := 0) (n := 5) H mp rfl ?_
  refine wp_callV H (sizedJ_ok (n := J) (by omega)) fun S2 H => ?_
  refine wp_notT ?_
  try(refine zz ?_;(repeat constructor);intro _)
  refine wp_ldn (o := 2) (n := 3) H mp rfl ?_
  refine wp_call (wpC_mono (fillS_ok (a := j + 2 * J) (b := j + 2 * J + 1) (n := J) (lo := j) (hi := j + 3 * J + 1) hx (by omega) (by omega) (by omega) (by omega) H) fun r S4 q => ?_)
  obtain ⟨y, m1, H⟩ := q
  try(refine zz ?_;(repeat constructor);intro _)
  refine wp_ld (o := 4) H mp rfl ?_
  refine wp_bind (wp_loop (wpL_for J (fun i vs S' => ∃ y, vs = [I (i : Int)] ∧ Mv j (j + 3 * J + 1) (J + 1 + 2 * i) x y ∧ (∀ k : Nat, k < i → y.word (j + k) = 4294967297) ∧ Cx B0 W S' (pMem m bl y rest ++ R) (.pt p 0 [I j, I (j + J), I (j + 2 * J), I (j + 2 * J + 1), I (J : Int)] :: ro)) ?_ ?_ ⟨y, rfl, m1.mono (by omega) (by omega) (by omega), fun k hk => by omega, H⟩))
  · clear m1 H
    rintro i vs S5 hlt ⟨y, rfl, my, hz, H⟩
    refine wp_lss_t (by omega) ?_
    try(refine zz ?_;(repeat constructor);intro _)
    refine wp_bind ?_
    try(refine zz ?_;(repeat constructor);intro _)
    refine wp_ld (o := 0) H mp rfl ?_
    refine wp_add64 (by omega) (by omega) ?_
    refine wp_op (v := .agg [I 1, I 0, I 1]) rfl ?_
    refine wp_callV H jlay_ok fun S6 H => ?_
    refine wp_ck (o := 0) H mp rfl beq_num ?_
    refine wp_call (wpC_mono (stM_ok (a := j + i) my.good (by have := my.n; omega) (by omega) H) fun r S7 q => ?_)
    obtain ⟨y2, m2, hv, H⟩ := q
    try(refine zz ?_;(repeat constructor);intro _)
    refine wp_ld (o := 1) H mp rfl ?_
    refine wp_add64 (by omega) (by omega) ?_
    refine wp_call (wpC_mono (stM_ok (a := j + J + i) m2.good (by have := my.n; have := m2.n; omega) (by omega) H) fun r S8 q => ?_)
    obtain ⟨y3, m3, _, H⟩ := q
    refine wp_ret ?_
    show wp EM _ _ _
    refine wp_add64 (by omega) (by omega) ?_
    refine wp_ret (.inl ⟨rfl, y3, rfl, ((my.trans (m2.mono (by omega) (by omega) (Int.le_refl _))).trans (m3.mono (by omega) (by omega) (Int.le_refl _))).mono (by omega) (by omega) (by omega), fun k hk => ?_, H⟩)
    rw [m3.out _ (by omega)]
    by_cases e : k = i
    · subst e; exact hv ⟨by omega, by rw [my.len]; omega⟩
    · rw [m2.out _ (by omega)]; exact hz k (by omega)
  · rintro vs S5 ⟨y, rfl, my, hz, H⟩
    refine wp_lss_f (by omega) ?_
    try(refine zz ?_;(repeat constructor);intro _)
    refine wp_ret ⟨by simp, ?_⟩
    show wp EM _ _ _
    exact wp_ret ⟨rfl, y, my.mono (by omega) (by omega) (by omega), hz, H.tl⟩
theorem sizedQ_ok {a b c : Int} (h1 : 1 ≤ n ∧ n ≤ 4096) : wpC EM (.fn (.func 156) [] []) [.agg [I a, I b, I c, I (n : Int)]] S fun r S' => r = B true ∧ Grows S S' := by
  refine wpC_fn (b := Tryz.a156) rfl rfl ?_
  have H : Cx S [] S [] [] := Cx.enter (by simp)
  unfold Tryz.a156 Tryz.a156x0
  repeat' (first | (first|refine zA ?_|refine zB rfl ?_|refine zC ?_|refine zD ?_|refine zE rfl ?_|refine zF ?_|refine zG ?_|refine zH ?_|refine zI ?_|refine zJ ?_|refine zK ?_|refine zL rfl ?_|refine zN rfl ?_) | refine wp_bind ?_ | refine wp_box (by assumption) rfl fun _ _ _ => ?_ | refine wp_tmpN (by assumption) rfl rfl rfl fun _ _ _ => ?_ | refine wp_ld (by assumption) (by repeat (first | exact List.Mem.head _ | apply List.Mem.tail)) rfl ?_ | refine wp_ldn (by assumption) (by repeat (first | exact List.Mem.head _ | apply List.Mem.tail)) rfl ?_ | refine wp_notT ?_ | refine wp_notF ?_ | (refine wp_ret ?_; show wp EM _ _ _) | refine wp_lss (fun _ => ?_) (fun _ => ?_) | refine wp_gtr (fun _ => ?_) (fun _ => ?_) | refine wp_leq (fun _ => ?_) (fun _ => ?_) | refine wp_geq (fun _ => ?_) (fun _ => ?_) | refine wp_eql (fun _ => ?_) (fun _ => ?_) | refine wp_neq (fun _ => ?_) (fun _ => ?_) | refine wp_add64 (by omega) (by omega) ?_ | refine wp_sub64 (by omega) (by omega) ?_)
  all_goals first | (exfalso; omega) | exact wp_ret ⟨rfl, rfl, Cx.grows (by assumption)⟩
theorem fillQ_ok {a : Int} (hx : x.good) (hn : x.n ≤ 300000) (hJ : 1 ≤ n ∧ n ≤ 16) (ha : 0 ≤ a ∧ a ≤ 90000) (hlen : a + n + 2 ≤ x.ws.length) (H : Cx B0 W S (pMem m bl x rest ++ R) ro) :
    wpC EM (.fn (.func 150) [] []) [.agg [I a, I (a + 1), I (a + 2), I (n : Int)], .ptr m 0] S fun r S' => ∃ y, Mv a (a + n + 2) (n + 2) x y ∧ (∀ k, a ≤ k ∧ k < a + n + 2 → y.word k = 0) ∧ Cx B0 W S' (pMem m bl y rest ++ R) ro := by
  refine wpC_fn (b := Tryz.a150) rfl rfl ?_
  unfold Tryz.a150 Tryz.a150x4 Tryz.a150x3 Tryz.a150x2 Tryz.a150x1 Tryz.a150x0
  refine wp_box H rfl fun p S1 H => ?_
  have H : Cx B0 W S1 (pMem m bl x rest ++ R) (.pt p 0 [I a, I (a + 1), I (a + 2), I (n : Int)] :: ro) := H
  have mp : Fct.pt p 0 [I a, I (a + 1), I (a + 2), I (n : Int)] ∈ (.pt p 0 [I a, I (a + 1), I (a + 2), I (n : Int)] :: ro) := List.Mem.head _
  refine wp_ldn (o := 0) (n := 4) H mp rfl ?_
  refine wp_callV H (sizedQ_ok (n := n) (by omega)) fun S2 H => ?_
  refine wp_notT ?_
  try(refine zz ?_;(repeat constructor);intro _)
  refine wp_ld (o := 0) H mp rfl ?_
  refine wp_call (wpC_mono (stM_ok (a := a) hx (by omega) (by omega) H) fun r S7 q => ?_)
  obtain ⟨y, m1, hv1, H⟩ := q
  try(refine zz ?_;(repeat constructor);intro _)
  refine wp_ld (o := 1) H mp rfl ?_
  refine wp_call (wpC_mono (stM_ok (a := a + 1) m1.good (by have := m1.n; omega) (by omega) H) fun r S7 q => ?_)
  obtain ⟨y2, m2, hv2, H⟩ := q
  try(refine zz ?_;(repeat constructor);intro _)
  refine wp_ld (o := 3) H mp rfl ?_
  have mm : Mv a (a + n + 2) 2 x y2 := (Mv.trans (lo := a) (hi := a + n + 2) (m1.mono (by omega) (by omega) (Int.le_refl _)) (m2.mono (by omega) (by omega) (Int.le_refl _))).mono (by omega) (by omega) (by omega)
  refine wp_bind (wp_loop (wpL_for n (fun i vs S' => ∃ y, vs = [I (i : Int)] ∧ Mv a (a + n + 2) (2 + i) x y ∧ (∀ k, a ≤ k ∧ k < a + i + 2 → y.word k = 0) ∧ Cx B0 W S' (pMem m bl y rest ++ R) (.pt p 0 [I a, I (a + 1), I (a + 2), I (n : Int)] :: ro)) ?_ ?_ ⟨y2, rfl, mm.mono (by omega) (by omega) (by omega), fun k hk => ?_, H⟩))
  · clear m1 m2 hv1 hv2 mm H
    rintro i vs S5 hlt ⟨y, rfl, my, hz, H⟩
    refine wp_lss_t (by omega) ?_
    try(refine zz ?_;(repeat constructor);intro _)
    refine wp_bind ?_
    try(refine zz ?_;(repeat constructor);intro _)
    refine wp_ld (o := 2) H mp rfl ?_
    refine wp_add64 (by omega) (by omega) ?_
    refine wp_call (wpC_mono (stM_ok (a := a + 2 + i) my.good (by have := my.n; omega) (by omega) H) fun r S7 q => ?_)
    obtain ⟨y2, m2, hv, H⟩ := q
    refine wp_ret ?_
    show wp EM _ _ _
    refine wp_add64 (by omega) (by omega) ?_
    refine wp_ret (.inl ⟨rfl, y2, rfl, (my.trans (m2.mono (by omega) (by omega) (Int.le_refl _))).mono (by omega) (by omega) (by omega), fun k hk => ?_, H⟩)
    by_cases e : k = a + 2 + i
    · subst e; exact hv ⟨by omega, by rw [my.len]; omega⟩
    · rw [m2.out _ (by omega)]; exact hz k (by omega)
  · rintro vs S5 ⟨y, rfl, my, hz, H⟩
    refine wp_lss_f (by omega) ?_
    try(refine zz ?_;(repeat constructor);intro _)
    refine wp_ret ⟨by simp, ?_⟩
    show wp EM _ _ _
    exact wp_ret ⟨rfl, y, my.mono (by omega) (by omega) (by omega), fun k hk => hz k (by omega), H.tl⟩
  · by_cases e : k = a + 1
    · subst e; exact hv2 ⟨by omega, by rw [m1.len]; omega⟩
    · have e2 : k = a := by omega
      subst e2
      rw [m2.out _ (by omega)]
      exact hv1 ⟨by omega, by omega⟩
theorem fillR_ok {r : Int} (hx : x.good) (hn : x.n ≤ 300000) (hC : 1 ≤ C ∧ C ≤ 64) (hr : 0 ≤ r ∧ r ≤ 90000) (hlen : r + 2 * C ≤ x.ws.length) (H : Cx B0 W S (pMem m bl x rest ++ R) ro) :
    wpC EM (.fn (.func 75) [] []) [.agg [I r, I (r + C), I (C : Int)], .ptr m 0] S fun _ S' => ∃ y, Mv r (r + 2 * C) (2 * C) x y ∧ (∀ k : Nat, k < C → y.word (r + k) = 18446744073709551615 ∧ y.word (r + C + k) = 0) ∧ Cx B0 W S' (pMem m bl y rest ++ R) ro := by
  refine wpC_fn (b := Tryz.a75) rfl rfl ?_
  unfold Tryz.a75 Tryz.a75x4 Tryz.a75x3 Tryz.a75x2 Tryz.a75x1 Tryz.a75x0
  refine wp_box H rfl fun p S1 H => ?_
  have H : Cx B0 W S1 (pMem m bl x rest ++ R) (.pt p 0 [I r, I (r + C), I (C : Int)] :: ro) := H
  have mp : Fct.pt p 0 [I r, I (r + C), I (C : Int)] ∈ (.pt p 0 [I r, I (r + C), I (C : Int)] :: ro) := List.Mem.head _
  refine wp_ldn (o := 0) (n := 3) H mp rfl ?_
  refine wp_callV H (sizedR_ok (n := C) (by omega)) fun S2 H => ?_
  refine wp_notT ?_
  try(refine zz ?_;(repeat constructor);intro _)
  refine wp_ld (o := 2) H mp rfl ?_
  refine wp_bind (wp_loop (wpL_for C (fun i vs S' => ∃ y, vs = [I (i : Int)] ∧ Mv r (r + 2 * C) (2 * i) x y ∧ (∀ k : Nat, k < i → y.word (r + k) = 18446744073709551615 ∧ y.word (r + C + k) = 0) ∧ Cx B0 W S' (pMem m bl y rest ++ R) (.pt p 0 [I r, I (r + C), I (C : Int)] :: ro)) ?_ ?_ ⟨x, rfl, Mv.refl hx, fun k hk => by omega, H⟩))
  · clear H
    rintro i vs S5 hlt ⟨y, rfl, my, hz, H⟩
    refine wp_lss_t (by omega) ?_
    try(refine zz ?_;(repeat constructor);intro _)
    refine wp_bind ?_
    try(refine zz ?_;(repeat constructor);intro _)
    refine wp_ld (o := 0) H mp rfl ?_
    refine wp_add64 (by omega) (by omega) ?_
    refine wp_call (wpC_mono (stM_ok (a := r + i) my.good (by have := my.n; omega) (by omega) H) fun _ S7 q => ?_)
    obtain ⟨y2, m2, hv, H⟩ := q
    try(refine zz ?_;(repeat constructor);intro _)
    refine wp_ld (o := 1) H mp rfl ?_
    refine wp_add64 (by omega) (by omega) ?_
    refine wp_call (wpC_mono (stM_ok (a := r + C + i) m2.good (by have := my.n; have := m2.n; omega) (by omega) H) fun _ S8 q => ?_)
    obtain ⟨y3, m3, hv3, H⟩ := q
    refine wp_ret ?_
    show wp EM _ _ _
    refine wp_add64 (by omega) (by omega) ?_
    refine wp_ret (.inl ⟨rfl, y3, rfl, ((my.trans (m2.mono (by omega) (by omega) (Int.le_refl _))).trans (m3.mono (by omega) (by omega) (Int.le_refl _))).mono (by omega) (by omega) (by omega), fun k hk => ?_, H⟩)
    by_cases e : k = i
    · subst e
      refine ⟨?_, hv3 ⟨by omega, by rw [m2.len, my.len]; omega⟩⟩
      rw [m3.out _ (by omega)]
      exact hv ⟨by omega, by rw [my.len]; omega⟩
    · rw [m3.out (r + k) (by omega), m3.out (r + C + k) (by omega), m2.out (r + k) (by omega), m2.out (r + C + k) (by omega)]; exact hz k (by omega)
  · rintro vs S5 ⟨y, rfl, my, hz, H⟩
    refine wp_lss_f (by omega) ?_
    try(refine zz ?_;(repeat constructor);intro _)
    refine wp_ret ⟨by simp, ?_⟩
    show wp EM _ _ _
    exact wp_ret ⟨rfl, y, my.mono (by omega) (by omega) (by omega), hz, H.tl⟩
end
end Go.Abs
namespace Go.Abs
open Go.Proofs
set_option maxRecDepth 100000
set_option linter.unusedVariables false
open Tsk (Tk tks tchk)
section
variable {B0 S : AH} {W : List Nat} {own R : List Own} {ro : List Fct} {Q : Post} {k : AV → AC} {m bl : Nat} {x : Me} {rest : List AV} {N C h n J Rm : Nat} {lim : Int}
theorem fillM_ok {a : Int} (hx : x.good) (hn : x.n ≤ 200000) (hq : mailQ a C Rm) (hlen : a + C * (Rm + 2) ≤ x.ws.length) (H : Cx B0 W S (pMem m bl x rest ++ R) ro) :
    wpC EM (.fn (.func 74) [] []) [.agg [I a, I (C : Int), I (Rm : Int)], .ptr m 0] S fun r S' => ∃ y, Mv a (a + C * (Rm + 2)) (C * (Rm + 2)) x y ∧ (∀ k, a ≤ k ∧ k < a + C * (Rm + 2) → y.word k = 0) ∧ Cx B0 W S' (pMem m bl y rest ++ R) ro := by
  refine wpC_fn (b := Tryz.a74) rfl rfl ?_
  have hq2 := hq
  unfold mailQ mailP at hq2
  have hmul : ∀ i : Nat, i ≤ C → 0 ≤ (i : Int) * (Rm + 2) ∧ (i : Int) * (Rm + 2) ≤ C * (Rm + 2) ∧ (C : Int) * (Rm + 2) ≤ 1152 := by
    intro i hi
    have h1 := mul_bd (a := (i : Int)) (b := (Rm : Int) + 2) (A := C) (C := (Rm : Int) + 2) (by omega) (by omega) (by omega) (Int.le_refl _)
    have h2 := mul_bd (a := (C : Int)) (b := (Rm : Int) + 2) (A := 64) (C := 18) (by omega) (by omega) (by omega) (by omega)
    exact ⟨h1.1, h1.2, by omega⟩
  have hsucc : ∀ i : Nat, ((i + 1 : Nat) : Int) * (Rm + 2) = (i : Int) * (Rm + 2) + (Rm + 2) := by
    intro i
    rw [show ((i + 1 : Nat) : Int) = (i : Int) + 1 by omega, Int.add_mul]; omega
  unfold Tryz.a74 Tryz.a74x2
  refine wp_box H rfl fun p S1 H => ?_
  refine wp_box H rfl fun pm S1 H => ?_
  have H : Cx B0 W S1 (pMem m bl x rest ++ R) (.pt pm 0 [.ptr m 0] :: .pt p 0 [I a, I (C : Int), I (Rm : Int)] :: ro) := H
  refine wp_ldn (o := 0) (n := 3) (cs := [I a, I (C : Int), I (Rm : Int)]) H (by repeat (first | exact List.Mem.head _ | apply List.Mem.tail)) rfl ?_
  refine wp_callV H (sizedM_ok (a := a) (n := C) (r := Rm)) fun S2 H => ?_
  rw [decide_eq_true hq.1]
  refine wp_notT ?_
  try(refine zz ?_;(repeat constructor);intro _)
  refine wp_ldn (o := 0) (n := 3) (cs := [I a, I (C : Int), I (Rm : Int)]) H (by repeat (first | exact List.Mem.head _ | apply List.Mem.tail)) rfl ?_
  refine wp_call (wpC_fn (b := Tryz.a149) rfl rfl ?_)
  unfold Tryz.a149
  refine wp_box H rfl fun pb S4 H => ?_
  have H : Cx B0 W S4 (pMem m bl x rest ++ R) (.pt pb 0 [I a, I (C : Int), I (Rm : Int)] :: .pt pm 0 [.ptr m 0] :: .pt p 0 [I a, I (C : Int), I (Rm : Int)] :: ro) := H
  have back : ∀ {S own}, Cx B0 W S own (.pt pb 0 [I a, I (C : Int), I (Rm : Int)] :: .pt pm 0 [.ptr m 0] :: .pt p 0 [I a, I (C : Int), I (Rm : Int)] :: ro) → Cx B0 W S own ro := fun H => H.tl.tl.tl
  have mb : Fct.pt pb 0 [I a, I (C : Int), I (Rm : Int)] ∈ (.pt pb 0 [I a, I (C : Int), I (Rm : Int)] :: .pt pm 0 [.ptr m 0] :: .pt p 0 [I a, I (C : Int), I (Rm : Int)] :: ro) := by repeat (first | exact List.Mem.head _ | apply List.Mem.tail)
  have mm : Fct.pt pm 0 [.ptr m 0] ∈ (.pt pb 0 [I a, I (C : Int), I (Rm : Int)] :: .pt pm 0 [.ptr m 0] :: .pt p 0 [I a, I (C : Int), I (Rm : Int)] :: ro) := by repeat (first | exact List.Mem.head _ | apply List.Mem.tail)
  generalize (Fct.pt pb 0 [I a, I (C : Int), I (Rm : Int)] :: .pt pm 0 [.ptr m 0] :: .pt p 0 [I a, I (C : Int), I (Rm : Int)] :: ro) = ro1 at H back mb mm
  refine wp_ret ⟨rfl, ?_⟩
  show wp EM _ _ _
  refine wp_bind (wp_rngO H (by intro i e; cases e) (fun S' => ∃ y, Mv a (a + C * (Rm + 2)) (C * (Rm + 2)) x y ∧ (∀ k, a ≤ k ∧ k < a + C * (Rm + 2) → y.word k = 0) ∧ Cx B0 W S' (pMem m bl y rest ++ R) ro1) ?_ ?_)
  · intro l S5 HL
    clear H
    refine wpC_fn (b := Tryz.a231) rfl rfl ?_
    unfold Tryz.a231 Tryz.a231x4 Tryz.a231x3 Tryz.a231x2 Tryz.a231x1 Tryz.a231x0
    try(refine zz ?_;(repeat constructor);intro _)
    refine wp_ld (o := 1) HL mb rfl ?_
    refine wp_bind (wp_loop (wpL_for C (fun i vs S' => ∃ y, vs = [I (i : Int)] ∧ Mv a (a + C * (Rm + 2)) (i * (Rm + 2)) x y ∧ (∀ k, a ≤ k ∧ k < a + i * (Rm + 2) → y.word k = 0) ∧ Cx B0 W S' (.obj l (.loop .ready none 2 fun v8 => Tryz.a74x1 (.ptr pm 0) v8) :: (pMem m bl y rest ++ R)) ro1) ?_ ?_ ⟨x, rfl, (Mv.refl hx).mono (Int.le_refl _) (Int.le_refl _) (by omega), fun k hk => by omega, HL⟩))
    · clear HL
      rintro i vs S6 hlt ⟨y, rfl, my, hz, H⟩
      obtain ⟨m1, m2, m3, m4⟩ := ringAt_bd (c := (i : Int)) hq (by omega) (by omega)
      have hm1 := hmul i (by omega)
      have hm2 := hmul (i + 1) (by omega)
      have hs := hsucc i
      refine wp_lss_t (by omega) ?_
      try(refine zz ?_;(repeat constructor);intro _)
      refine wp_bind ?_
      try(refine zz ?_;(repeat constructor);intro _)
      refine wp_ld (o := 0) H mb rfl ?_
      try(refine zz ?_;(repeat constructor);intro _)
      refine wp_ld (o := 2) H mb rfl ?_
      refine wp_add64 (by omega) (by omega) ?_
      refine wp_mul64 (by omega) (by omega) ?_
      refine wp_add64 (by omega) (by omega) ?_
      have e : a + (i : Int) * ((Rm : Int) + 2) = ringAt a Rm i := rfl
      rw [e]
      refine wp_add64 (by omega) (by omega) ?_
      refine wp_add64 (by omega) (by omega) ?_
      try(refine zz ?_;(repeat constructor);intro _)
      refine wp_ld (o := 2) H mb rfl ?_
      refine wp_op (v := .agg (ringCs a Rm i)) rfl ?_
      refine wp_call (wpC_mono (wpC_ydO (R := fun S' => ∃ y, Mv a (a + C * (Rm + 2)) ((i + 1 : Nat) * (Rm + 2)) x y ∧ (∀ k, a ≤ k ∧ k < a + (i + 1 : Nat) * (Rm + 2) → y.word k = 0) ∧ Cx B0 W S' (.obj l (.loop .ready none 2 fun v8 => Tryz.a74x1 (.ptr pm 0) v8) :: (pMem m bl y rest ++ R)) ro1) H 0 rfl rfl ?_) fun u2 S17 q => ?_)
      · unfold Tryz.a74x1 Tryz.a74x0
        refine wp_alloc H fun z S7 H => ?_
        refine wp_store (n := 4) H 0 (c := [I 0, I 0, I 0, I 0]) rfl rfl rfl (by simp) fun S8 H => ?_
        have H := H.freeze (i := 0) rfl
        have H : Cx B0 W S8 (.obj l (.loop .ready none 2 fun v8 => Tryz.a74x1 (.ptr pm 0) v8) :: (pMem m bl y rest ++ R)) (.pt z 0 (ringCs a Rm i) :: ro1) := H
        refine wp_startO H 0 rfl fun S9 H => ?_
        refine wp_bind ?_
        refine wp_ldn (o := 0) (n := 4) (cs := ringCs a Rm i) H (List.Mem.head _) rfl ?_
        refine wp_ld (o := 0) H (List.mem_cons_of_mem _ mm) rfl ?_
        refine wp_call (wpC_mono (fillQ_ok (a := ringAt a Rm i) (n := Rm) my.good (by have := my.n; omega) (by omega) (by omega) (by rw [my.len, ← e]; omega) (H.permS swap1)) fun r S7 q => ?_)
        obtain ⟨y2, m2, hz2, H⟩ := q
        refine wp_ret ?_
        show wp EM _ _ _
        refine wp_ret ⟨rfl, _, _, H.permS swap1.symm, rfl, fun S2 H => ⟨y2, (my.trans (m2.mono (by omega) (by rw [← e]; omega) (Int.le_refl _))).mono (by omega) (by omega) (by rw [hs]; omega), fun k hk => ?_, H.tl⟩⟩
        by_cases hk2 : ringAt a Rm i ≤ k
        · refine hz2 k ⟨hk2, ?_⟩
          rw [← e]; omega
        · rw [m2.out _ (by omega)]
          exact hz k (by rw [← e] at hk2; omega)
      · obtain ⟨rfl, y2, my2, hz2, H⟩ := q
        refine wp_notT ?_
        try(refine zz ?_;(repeat constructor);intro _)
        refine wp_ret ?_
        show wp EM _ _ _
        refine wp_add64 (by omega) (by omega) ?_
        exact wp_ret (.inl ⟨rfl, y2, rfl, my2, hz2, H⟩)
    · rintro vs S6 ⟨y, rfl, my, hz, H⟩
      refine wp_lss_f (by omega) ?_
      try(refine zz ?_;(repeat constructor);intro _)
      refine wp_ret ⟨by simp, ?_⟩
      show wp EM _ _ _
      exact wp_ret ⟨rfl, H.oh _ (List.Mem.head _), fun S2 g1 g2 => ⟨y, my, hz, H.other (n := 0) rfl g1 g2⟩⟩
  · rintro S5 ⟨y, my, hz, H⟩
    refine wp_ret ?_
    show wp EM _ _ _
    exact wp_ret ⟨rfl, y, my, hz, back H⟩
structure Laid (N C h n J Rm : Nat) (j m r : Int) (y : Me) : Prop where
  good : y.good
  hd : ∀ k : Nat, k < h → y.word (6 + 2 * N + C + k) = 0
  st : ∀ k : Nat, k < J → y.word (j + k) = 4294967297
  ml : ∀ k, m ≤ k ∧ k < m + C * (Rm + 2) → y.word k = 0
  rn : ∀ k : Nat, k < C → y.word (r + k) = 18446744073709551615 ∧ y.word (r + C + k) = 0
  ow : ∀ k : Nat, k < C → y.word (r + 2 * C + k) = 0
theorem exV_ok {g j m r : Int} {l : List Tk} (L : Lx N C h n J Rm lim g j m r) (hl2 : l.length = n) (hc : tchk l = 0) : (exV N C h n J Rm lim g j m r).ok l := by
  obtain ⟨hN, hC, hh, hn, hJ, hR, hl, hP, hM, hg, hj, hm, hr⟩ := L
  have e1 : ((N * (4 + h) : Nat) : Int) = N * (4 + h) := by simp
  have e2 : ((C * (Rm + 2) : Nat) : Int) = C * (Rm + 2) := by simp
  unfold Ex.ok cellP exV
  refine ⟨toL_ok hN hC.2 hh, hc, by omega, ?_⟩
  dsimp only [toL]
  refine ⟨by omega, by omega, by omega, by omega, by omega, by omega, by omega, by omega, by omega, ?_⟩
  omega
theorem fillX_ok {g j mf r : Int} {l : List Tk} {u : AV} (L : Lx N C h n J Rm lim g j mf r) (hl2 : l.length = n) (hc : tchk l = 0) (hu : Fct.sl u 4 (tks l) ∈ ro) (hx : x.good) (hn0 : x.n = 0) (hlen : x.ws.length = r + 3 * C + 1) (H : Cx B0 W S (pMem m bl x rest ++ R) ro) :
    wpC EM (.fn (.func 37) [] []) [.agg ((exV N C h n J Rm lim g j mf r).cs u), .ptr m 0] S fun _ S' => ∃ y, y.ws.length = x.ws.length ∧ Laid N C h n J Rm j mf r y ∧ Cx B0 W S' (pMem m bl y rest ++ R) ro := by
  refine wpC_fn (b := Tryz.a37) rfl rfl ?_
  have hok := exV_ok L hl2 hc
  have huv := slOk_one (H.rh _ hu)
  obtain ⟨hN, hC, hh, hn, hJ, hR, hl, hP, hM, hg, hj, hm, hr⟩ := L
  have e1 : ((N * (4 + h) : Nat) : Int) = N * (4 + h) := by simp
  have e2 : ((C * (Rm + 2) : Nat) : Int) = C * (Rm + 2) := by simp
  unfold Tryz.a37 Tryz.a37x6 Tryz.a37x5 Tryz.a37x4 Tryz.a37x3 Tryz.a37x2 Tryz.a37x1 Tryz.a37x0
  refine wp_box H rfl fun p S1 H => ?_
  have H : Cx B0 W S1 (pMem m bl x rest ++ R) (.pt p 0 ((exV N C h n J Rm lim g j mf r).cs u) :: ro) := H
  have mp : Fct.pt p 0 ((exV N C h n J Rm lim g j mf r).cs u) ∈ (.pt p 0 ((exV N C h n J Rm lim g j mf r).cs u) :: ro) := List.Mem.head _
  refine wp_ldn (o := 0) (n := 29) H mp rfl ?_
  refine wp_callV H (soundE_ok (e := exV N C h n J Rm lim g j mf r) (List.mem_cons_of_mem _ hu) H) fun S2 H => ?_
  rw [decide_eq_true hok]
  refine wp_notT ?_
  try(refine zz ?_;(repeat constructor);intro _)
  refine wp_ldn (o := 0) (n := 13) H mp rfl ?_
  refine wp_call (wpC_mono (fillT_ok (N := N) (C := C) (h := h) (lim := lim) hx (by omega) hN hC hh (by omega) H) fun _ S4 q => ?_)
  obtain ⟨y1, m1, z1, H⟩ := q
  have n1 := m1.n
  try(refine zz ?_;(repeat constructor);intro _)
  refine wp_ldn (o := 13) (n := 2) H mp rfl ?_
  refine wp_call (wpC_mono (fillG_ok (n := n) (g := g) m1.good (by omega) hn (by omega) H) fun _ S4 q => ?_)
  obtain ⟨y2, m2, H⟩ := q
  have n2 := m2.n
  try(refine zz ?_;(repeat constructor);intro _)
  refine wp_ldn (o := 15) (n := 5) H mp rfl ?_
  refine wp_call (wpC_mono (fillJ_ok (J := J) (j := j) m2.good (by omega) hJ (by omega) (by rw [m2.len, m1.len]; omega) H) fun _ S4 q => ?_)
  obtain ⟨y3, m3, z3, H⟩ := q
  have n3 := m3.n
  try(refine zz ?_;(repeat constructor);intro _)
  refine wp_ldn (o := 20) (n := 3) H mp rfl ?_
  refine wp_call (wpC_mono (fillM_ok (C := C) (Rm := Rm) (a := mf) m3.good (by omega) ⟨⟨by omega, by omega, by omega, by omega⟩, by omega, by omega⟩ (by rw [m3.len, m2.len, m1.len]; omega) H) fun _ S4 q => ?_)
  obtain ⟨y4, m4, z4, H⟩ := q
  have n4 := m4.n
  try(refine zz ?_;(repeat constructor);intro _)
  refine wp_ldn (o := 23) (n := 3) H mp rfl ?_
  refine wp_call (wpC_mono (fillR_ok (C := C) (r := r) m4.good (by omega) hC (by omega) (by rw [m4.len, m3.len, m2.len, m1.len]; omega) H) fun _ S4 q => ?_)
  obtain ⟨y5, m5, z5, H⟩ := q
  have n5 := m5.n
  have l5 : y5.ws.length = x.ws.length := by rw [m5.len, m4.len, m3.len, m2.len, m1.len]
  try(refine zz ?_;(repeat constructor);intro _)
  refine wp_ld (o := 25) H mp rfl ?_
  refine wp_bind (wp_loop (wpL_for C (fun i vs S' => ∃ y, vs = [I (i : Int)] ∧ Mv (r + 2 * C) (r + 3 * C) i y5 y ∧ (∀ k : Nat, k < i → y.word (r + 2 * C + k) = 0) ∧ Cx B0 W S' (pMem m bl y rest ++ R) (.pt p 0 ((exV N C h n J Rm lim g j mf r).cs u) :: ro)) ?_ ?_ ⟨y5, rfl, Mv.refl m5.good, fun k hk => by omega, H⟩))
  · clear H
    rintro i vs S5 hlt ⟨y, rfl, my, hz, H⟩
    refine wp_lss_t (by show (i : Int) < (C : Int); omega) ?_
    try(refine zz ?_;(repeat constructor);intro _)
    refine wp_bind ?_
    try(refine zz ?_;(repeat constructor);intro _)
    refine wp_ld (o := 26) H mp rfl ?_
    refine wp_add64 (by show _ ≤ (r + 2 * C + i : Int); omega) (by show (r + 2 * C + i : Int) ≤ _; omega) ?_
    refine wp_call (wpC_mono (stM_ok (a := r + 2 * C + i) my.good (by have := my.n; omega) (by omega) H) fun _ S7 q => ?_)
    obtain ⟨y7, m7, hv, H⟩ := q
    refine wp_ret ?_
    show wp EM _ _ _
    refine wp_add64 (by omega) (by omega) ?_
    refine wp_ret (.inl ⟨rfl, y7, rfl, (my.trans (m7.mono (by omega) (by omega) (Int.le_refl _))).mono (by omega) (by omega) (by omega), fun k hk => ?_, H⟩)
    by_cases e : k = i
    · subst e; exact hv ⟨by omega, by rw [my.len, l5]; omega⟩
    · rw [m7.out _ (by omega)]; exact hz k (by omega)
  · rintro vs S5 ⟨y6, rfl, m6, z6, H⟩
    have n6 := m6.n
    refine wp_lss_f (by show (C : Int) ≤ (C : Int); omega) ?_
    try(refine zz ?_;(repeat constructor);intro _)
    refine wp_ret ⟨by simp, ?_⟩
    show wp EM _ _ _
    try(refine zz ?_;(repeat constructor);intro _)
    refine wp_ld (o := 27) H mp rfl ?_
    refine wp_call (wpC_mono (stM_ok (a := r + 3 * C) m6.good (by omega) (by omega) H) fun _ S7 q => ?_)
    obtain ⟨y7, m7, _, H⟩ := q
    refine wp_ret ⟨rfl, y7, by rw [m7.len, m6.len, l5], ⟨m7.good, fun k hk => ?_, fun k hk => ?_, fun k hk => ?_, fun k hk => ?_, fun k hk => ?_⟩, H.tl⟩
    · rw [m7.out _ (by omega), m6.out _ (by omega), m5.out _ (by omega), m4.out _ (by omega), m3.out _ (by omega), m2.out _ (by omega)]; exact z1 k hk
    · rw [m7.out _ (by omega), m6.out _ (by omega), m5.out _ (by omega), m4.out _ (by omega)]; exact z3 k hk
    · rw [m7.out _ (by omega), m6.out _ (by omega), m5.out _ (by omega)]; exact z4 k hk
    · rw [m7.out _ (by omega), m6.out _ (by omega), m7.out _ (by omega), m6.out _ (by omega)]; exact z5 k hk
    · rw [m7.out _ (by omega)]; exact z6 k hk
end
end Go.Abs
namespace Go.Abs
open Go.Proofs
set_option maxRecDepth 100000
set_option linter.unusedVariables false
open Tsk (Tk tks tchk)
/-! ### a crew that was just made -/
theorem lx_of {s : Su} {l : List Tk} (hc : s.chk l = 0) : ∃ (N C h J R : Nat) (g j m r : Int), s.cores = C ∧ s.jobs = J ∧ s.nodes = N ∧ s.height = h ∧ s.room = R ∧ Lx N C h l.length J R s.limit g j m r ∧ layE s l.length = exV N C h l.length J R s.limit g j m r ∧ layN s l.length = r + 3 * C + 1 ∧ tchk l = 0 := by
  obtain ⟨hf, ht, hp, hl, h1, h2⟩ := lay_bd hc
  unfold Su.fine at hf
  obtain ⟨co, jo, no, he, ro, li⟩ := s
  dsimp only at *
  obtain ⟨C, rfl⟩ : ∃ C : Nat, co = C := ⟨co.toNat, by omega⟩
  obtain ⟨J, rfl⟩ : ∃ C : Nat, jo = C := ⟨jo.toNat, by omega⟩
  obtain ⟨N, rfl⟩ : ∃ C : Nat, no = C := ⟨no.toNat, by omega⟩
  obtain ⟨h, rfl⟩ : ∃ C : Nat, he = C := ⟨he.toNat, by omega⟩
  obtain ⟨R, rfl⟩ : ∃ C : Nat, ro = C := ⟨ro.toNat, by omega⟩
  have e1 : ((N * (4 + h) : Nat) : Int) = N * (4 + h) := by simp
  have e2 : ((C * (R + 2) : Nat) : Int) = C * (R + 2) := by simp
  refine ⟨N, C, h, J, R, 6 + 2 * N + C + h + N * (4 + h), 6 + 2 * N + C + h + N * (4 + h) + l.length, 6 + 2 * N + C + h + N * (4 + h) + l.length + 3 * J + 1, 6 + 2 * N + C + h + N * (4 + h) + l.length + 3 * J + 1 + C * (R + 2), rfl, rfl, rfl, rfl, rfl, ⟨by omega, by omega, by omega, by omega, by omega, by omega, by omega, by omega, by omega, by rw [e1], rfl, rfl, by rw [e2]⟩, rfl, rfl, ht⟩
def cw (s : Su) (v : AV) (e : Ex) (u : AV) (m : Nat) (o t : AV) : List AV := s.cs v ++ (e.cs u ++ [.ptr m 0, o, t, I 0, Ns, Ns, Ns, B false, B false])
theorem slForms {S : AH} {v : AV} {es : Nat} {L : List (List AV)} (h : slOk S v es L) : v = Ns ∨ (∃ a b c d, v = .sl a b c d) ∨ (∃ a b c d e, v = .op a b c d e) := by
  rcases h with ⟨rfl, _⟩ | ⟨id, off, c, (⟨cap, _, _, rfl⟩ | ⟨cap, _, _, rfl⟩), _⟩
  · exact .inl rfl
  · exact .inr (.inl ⟨_, _, _, _, rfl⟩)
  · exact .inr (.inr ⟨_, _, _, _, _, rfl⟩)
theorem good_fresh {n : Nat} (h1 : 1 ≤ n) (h2 : n ≤ 4096) : (Me.fresh n).good := by
  refine ⟨?_, ?_⟩
  · unfold Me.wf Me.fresh
    simp only [List.length_replicate]; omega
  · intro w hw
    unfold Me.fresh at hw
    have := (List.mem_replicate.1 hw).2
    subst this; omega
section
variable {B0 S S1 : AH} {W : List Nat} {own R : List Own} {ro : List Fct} {Q : Post} {k : AV → AC}
theorem Cx.joinA (H : Cx B0 W S own ro) {v : AV} {es : Nat} {L : List (List AV)} (K : Cx S [] S1 [.sl v es L] []) : Cx B0 W S1 own (.sl v es L :: ro) := by
  have H2 : Cx B0 W S1 (.sl v es L :: own) ro := H.addOwn K.grows (K.oh _ (List.Mem.head _)) fun id hid => by
    have := K.oi _ (List.Mem.head _) id hid
    refine ⟨?_, this.1⟩
    have h2 := this.2
    exact Nat.le_of_not_lt fun h => by have := h2 h; simp at this
  exact H2.toRo (i := 0) rfl
theorem begun_ok {s : Su} {v : AV} {l : List Tk} {N C h J Rm : Nat} {g j mf r : Int} (hj : -9223372036854775808 ≤ s.jobs) (hc : s.chk l = 0) (htc : tchk l = 0) (hC : s.cores = C) (L : Lx N C h l.length J Rm s.limit g j mf r) (hE : layE s l.length = exV N C h l.length J Rm s.limit g j mf r) (hN : layN s l.length = r + 3 * C + 1)
    (hv : Fct.sl v 4 (tks l) ∈ ro) (H : Cx B0 W S own ro) : wpC EM (.fn (.func 10) [] []) [.agg (s.cs v)] S fun w S' => ∃ q m bl y u o t, w = .ptr q 0 ∧ (y.ws.length : Int) = r + 3 * C + 1 ∧ Laid N C h l.length J Rm j mf r y ∧ Cx B0 W S' (pMem m bl y (List.replicate (4096 - y.ws.length) (U 0)) ++ own) (.pt q 0 (cw s v (exV N C h l.length J Rm s.limit g j mf r) u m o t) :: ro) := by
  refine wpC_fn (b := Tryz.a10) rfl rfl ?_
  obtain ⟨LN, LC, Lh, Ln, LJ, LR, Ll, LP, LM, Lg, Lj, Lm, Lr⟩ := id L
  unfold Tryz.a10 Tryz.a10x4 Tryz.a10x3 Tryz.a10x2 Tryz.a10x1 Tryz.a10x0
  refine wp_box H rfl fun p S1 H => ?_
  have H : Cx B0 W S1 own (.pt p 0 (s.cs v) :: ro) := H
  have hvo := slForms (H.rh _ (List.mem_cons_of_mem _ hv))
  refine wp_ldn (o := 0) (n := 7) H (List.Mem.head _) rfl ?_
  refine wp_call (wpC_mono (layout_ok (s := s) (l := l) hj (H.roSl (List.mem_cons_of_mem _ hv))) fun r' S6 ⟨u, hr, K⟩ => ?_)
  rw [if_pos hc] at K
  rcases hr with ⟨h0, _⟩ | ⟨_, rfl⟩
  · exact absurd hc h0
  rw [hE, hN]
  have H := H.joinA K
  have huv := slOk_one (H.rh _ (List.Mem.head _))
  have huo := slForms (H.rh _ (List.Mem.head _))
  try(refine zz ?_;(repeat constructor);intro _)
  refine wp_tmpN H rfl rfl rfl fun pe S7 H => ?_
  have H : Cx B0 W S7 own (.pt pe 0 ((exV N C h l.length J Rm s.limit g j mf r).cs u) :: .sl u 4 (tks l) :: .pt p 0 (s.cs v) :: ro) := H
  refine wp_neq_f (by omega) ?_
  try(refine zz ?_;(repeat constructor);intro _)
  obtain ⟨K2, hK2⟩ : ∃ n : Nat, r + 3 * C + 1 = (n : Int) := ⟨(r + 3 * C + 1).toNat, by omega⟩
  rw [hK2]
  refine wp_call (wpC_mono (newC_ok (n := K2) (by omega) (by omega) H) fun r' S8 ⟨m, bl, hr, H⟩ => ?_)
  subst hr
  try(refine zz ?_;(repeat constructor);intro _)
  refine wp_neq_f (by omega) ?_
  try(refine zz ?_;(repeat constructor);intro _)
  refine wp_op (e_ptrNil (by kernel_rfl)) ?_
  try(refine zz ?_;(repeat constructor);intro _)
  refine wp_ldn (o := 0) (n := 29) H (List.Mem.head _) rfl ?_
  have hfl : (Me.fresh K2).ws.length = K2 := by simp [Me.fresh]
  refine wp_call (wpC_mono (fillX_ok (u := u) (l := l) L rfl htc (by repeat (first | exact List.Mem.head _ | apply List.Mem.tail)) (good_fresh (by omega) (by omega)) rfl (by rw [hfl]; omega) H) fun r' S9 ⟨y, hy, hld, H⟩ => ?_)
  rw [hfl] at hy
  try(refine zz ?_;(repeat constructor);intro _)
  have mp : Fct.pt p 0 (s.cs v) ∈ (.pt pe 0 ((exV N C h l.length J Rm s.limit g j mf r).cs u) :: .sl u 4 (tks l) :: .pt p 0 (s.cs v) :: ro) := by repeat (first | exact List.Mem.head _ | apply List.Mem.tail)
  refine wp_ldn (o := 0) (n := 7) H mp rfl ?_
  refine wp_ldn (o := 0) (n := 29) H (List.Mem.head _) rfl ?_
  try(refine zz ?_;(repeat constructor);intro _)
  refine wp_ld (o := 0) H mp rfl ?_
  rw [hC]
  refine wp_mkslice1 H (by omega) (by omega) fun o S10 H => ?_
  have hoo := slForms (ownSl_ok (H.oh _ (List.Mem.head _)))
  try(refine zz ?_;(repeat constructor);intro _)
  refine wp_ld (o := 0) H mp rfl ?_
  rw [hC]
  refine wp_mkslice1 H (by omega) (by omega) fun t S11 H => ?_
  have hto := slForms (ownSl_ok (H.oh _ (List.Mem.head _)))
  refine wp_op (S1 := S11) (v := .agg (cw s v (exV N C h l.length J Rm s.limit g j mf r) u m o t)) ?_ ?_
  · rcases hoo with rfl | ⟨_, _, _, _, rfl⟩ | ⟨_, _, _, _, _, rfl⟩ <;> rcases hto with rfl | ⟨_, _, _, _, rfl⟩ | ⟨_, _, _, _, _, rfl⟩ <;> rfl
  refine wp_boxOwn H rfl fun q S12 H => ?_
  have H := (H.freeze (i := 0) rfl).dropAt 0
  have H := H.dropAt 0
  refine wp_ret ⟨rfl, q, m, bl, y, u, o, t, rfl, by omega, hld, ?_⟩
  have H : Cx B0 W S12 (pMem m bl y (List.replicate (4096 - K2) (U 0)) ++ own) (.pt q 0 (cw s v (exV N C h l.length J Rm s.limit g j mf r) u m o t) :: .pt pe 0 ((exV N C h l.length J Rm s.limit g j mf r).cs u) :: .sl u 4 (tks l) :: .pt p 0 (s.cs v) :: ro) := H
  rw [hy]
  exact H.dropRo fun φ hφ => by
    rcases List.mem_cons.1 hφ with rfl | hφ
    · exact List.Mem.head _
    · exact List.Mem.tail _ (List.Mem.tail _ (List.Mem.tail _ (List.Mem.tail _ hφ)))
end
end Go.Abs
namespace Go.Abs
open Go.Proofs
set_option maxRecDepth 100000
set_option linter.unusedVariables false
open Tsk (Tk tks tchk)
theorem uints_word {y : Me} {i : Nat} (h : i < y.ws.length) : (uints y.ws)[i]? = some [U (y.word (i : Int))] := by
  have hw : y.ws[i]? = some y.ws[i] := List.getElem?_eq_getElem h
  rw [Me.word_eq hw]
  exact uints_get? hw
section
variable {B0 S : AH} {W : List Nat} {own R : List Own} {ro : List Fct} {Q : Post} {k : AV → AC} {s : Su} {v u o t : AV} {n N C h J Rm q m bl c : Nat} {lim g j mf r : Int} {y : Me} {rest : List AV}
theorem own_ok (L : Lx N C h n J Rm lim g j mf r) (hl : (y.ws.length : Int) = r + 3 * C + 1) (hg : y.good) (hrest : y.ws.length + rest.length = 4096) (hc : c < C) (hq : Fct.pt q 0 (cw s v (exV N C h n J Rm lim g j mf r) u m o t) ∈ ro) (H : Cx B0 W S (pMem m bl y rest ++ R) ro) :
    wpC EM (.fn (.func 79) [] []) [.ptr q 0, I (c : Int)] S fun w S' => w = U (y.word (r + 2 * C + c)) ∧ Cx B0 W S' (pMem m bl y rest ++ R) ro := by
  refine wpC_fn (b := Tryz.a79) rfl rfl ?_
  obtain ⟨hN, hC, hh, hn, hJ, hR, hl2, hP, hM, hg2, hj, hm, hr⟩ := L
  unfold Tryz.a79 Tryz.a79x0
  try(refine zz ?_;(repeat constructor);intro _)
  refine wp_ld (o := 36) H hq rfl ?_
  try(refine zz ?_;(repeat constructor);intro _)
  refine wp_ld (o := 33) H hq rfl ?_
  refine wp_add64 (by show _ ≤ (r + 2 * C + c : Int); omega) (by show (r + 2 * C + c : Int) ≤ _; omega) ?_
  refine wp_call (wpC_mono (words_ok hg.1 hrest H) fun vw S1 H => ?_)
  refine wp_ck (o := 33) H hq rfl beq_num ?_
  obtain ⟨i, hi⟩ : ∃ i : Nat, r + 2 * C + c = (i : Int) := ⟨(r + 2 * C + c).toNat, by omega⟩
  show wp EM (.op (.saddr 1 vw (I (r + 2 * C + c))) _) _ _
  rw [hi]
  refine wp_saddro H 0 rfl (uints_word (by omega)) fun id off hp => ?_
  refine wp_loadF0 hp ?_
  exact wp_ret ⟨rfl, rfl, H.dropAt 0⟩
theorem run_ok (L : Lx N C h n J Rm lim g j mf r) (hl : (y.ws.length : Int) = r + 3 * C + 1) (hg : y.good) (hrest : y.ws.length + rest.length = 4096) (hc : c < C) (hq : Fct.pt q 0 (cw s v (exV N C h n J Rm lim g j mf r) u m o t) ∈ ro) (H : Cx B0 W S (pMem m bl y rest ++ R) ro) :
    wpC EM (.fn (.func 43) [] []) [.ptr q 0, I (c : Int)] S fun w S' => w = U (y.word (r + c)) ∧ Cx B0 W S' (pMem m bl y rest ++ R) ro := by
  refine wpC_fn (b := Tryz.a43) rfl rfl ?_
  obtain ⟨hN, hC, hh, hn, hJ, hR, hl2, hP, hM, hg2, hj, hm, hr⟩ := L
  unfold Tryz.a43 Tryz.a43x1 Tryz.a43x0
  try(refine zz ?_;(repeat constructor);intro _)
  refine wp_ld (o := 36) H hq rfl ?_
  try(refine zz ?_;(repeat constructor);intro _)
  refine wp_ld (o := 30) H hq rfl ?_
  refine wp_add64 (by show _ ≤ (r + c : Int); omega) (by show (r + c : Int) ≤ _; omega) ?_
  refine wp_call (wpC_mono (words_ok hg.1 hrest H) fun vw S1 H => ?_)
  refine wp_ck (o := 30) H hq rfl beq_num ?_
  obtain ⟨i, hi⟩ : ∃ i : Nat, r + c = (i : Int) := ⟨(r + c).toNat, by omega⟩
  show wp EM (.op (.saddr 1 vw (I (r + c))) _) _ _
  rw [hi]
  refine wp_saddro H 0 rfl (uints_word (by omega)) fun id off hp => ?_
  refine wp_loadF0 hp ?_
  exact wp_ret ⟨rfl, rfl, H.dropAt 0⟩
theorem flag_ok (L : Lx N C h n J Rm lim g j mf r) (hl : (y.ws.length : Int) = r + 3 * C + 1) (hg : y.good) (hrest : y.ws.length + rest.length = 4096) (hc : c < C) (hq : Fct.pt q 0 (cw s v (exV N C h n J Rm lim g j mf r) u m o t) ∈ ro) (H : Cx B0 W S (pMem m bl y rest ++ R) ro) :
    wpC EM (.fn (.func 41) [] []) [.ptr q 0, I (c : Int)] S fun w S' => w = U (y.word (r + C + c)) ∧ Cx B0 W S' (pMem m bl y rest ++ R) ro := by
  refine wpC_fn (b := Tryz.a41) rfl rfl ?_
  obtain ⟨hN, hC, hh, hn, hJ, hR, hl2, hP, hM, hg2, hj, hm, hr⟩ := L
  unfold Tryz.a41 Tryz.a41x1 Tryz.a41x0
  try(refine zz ?_;(repeat constructor);intro _)
  refine wp_ld (o := 36) H hq rfl ?_
  try(refine zz ?_;(repeat constructor);intro _)
  refine wp_ld (o := 31) H hq rfl ?_
  refine wp_add64 (by show _ ≤ (r + C + c : Int); omega) (by show (r + C + c : Int) ≤ _; omega) ?_
  refine wp_call (wpC_mono (words_ok hg.1 hrest H) fun vw S1 H => ?_)
  refine wp_ck (o := 31) H hq rfl beq_num ?_
  obtain ⟨i, hi⟩ : ∃ i : Nat, r + C + c = (i : Int) := ⟨(r + C + c).toNat, by omega⟩
  show wp EM (.op (.saddr 1 vw (I (r + C + c))) _) _ _
  rw [hi]
  refine wp_saddro H 0 rfl (uints_word (by omega)) fun id off hp => ?_
  refine wp_loadF0 hp ?_
  exact wp_ret ⟨rfl, rfl, H.dropAt 0⟩
/-! ### nothing waits -/
theorem ring_none {rg : Rg} (h1 : 1 ≤ rg.cp) (h2 : rg.cp ≤ 4096) (ha : y.word rg.hd = 0) (hb : y.word rg.sl = 0) : ringVals y rg = [] := by
  have e1 : y.wd rg.hd = 0 := by unfold Me.wd; rw [ha]; rfl
  have e2 : rg.place 0 = rg.sl := by unfold Rg.place; simp
  have e3 : y.wd (rg.place 0) = 0 := by unfold Me.wd; rw [e2, hb]; rfl
  unfold ringVals
  rw [e1, nums_no (by rw [e3]; unfold slFull; omega)]
  rfl
theorem mailAll_ok (L : Lx N C h n J Rm lim g j mf r) (hg : y.good) (hrest : y.ws.length + rest.length = 4096) (hc : c < C) (hz : ∀ k, mf ≤ k ∧ k < mf + C * (Rm + 2) → y.word k = 0) (H : Cx B0 W S (pMem m bl y rest ++ R) ro) :
    wpC EM (.fn (.func 42) [] []) [.agg [I mf, I (C : Int), I (Rm : Int)], I (c : Int), .ptr m 0] S fun w S' => Cx B0 W S' (.sl w 1 [] :: (pMem m bl y rest ++ R)) ro := by
  refine wpC_fn (b := Tryz.a42) rfl rfl ?_
  obtain ⟨hN, hC, hh, hn, hJ, hR, hl2, hP, hM, hg2, hj, hm, hr⟩ := L
  have e1 : ((N * (4 + h) : Nat) : Int) = N * (4 + h) := by simp
  have e2 : ((C * (Rm + 2) : Nat) : Int) = C * (Rm + 2) := by simp
  have hq : mailQ mf C Rm := ⟨⟨by omega, by omega, by omega, by omega⟩, by omega, by omega⟩
  unfold Tryz.a42 Tryz.a42x0
  refine wp_box H rfl fun p S1 H => ?_
  refine wp_ldn (o := 0) (n := 3) (cs := [I mf, I (C : Int), I (Rm : Int)]) H (List.Mem.head _) rfl ?_
  refine wp_callV H (boxM_ok (c := (c : Int)) hq (by omega) (by omega)) fun S2 H => ?_
  try(refine zz ?_;(repeat constructor);intro _)
  refine wp_tmpN H rfl rfl rfl fun z S3 H => ?_
  have H : Cx B0 W S3 (pMem m bl y rest ++ R) (.pt z 0 (ringCs mf Rm c) :: .pt p 0 [I mf, I (C : Int), I (Rm : Int)] :: ro) := H
  refine wp_notT ?_
  try(refine zz ?_;(repeat constructor);intro _)
  refine wp_ldn (o := 0) (n := 4) (cs := ringCs mf Rm c) H (List.Mem.head _) rfl ?_
  have hx := rgOf_cs (a := mf) (r := (Rm : Int)) (c := (c : Int)) (by omega)
  have hall := rall_ok (r := rgOf mf Rm c) hg hrest (rgOf_ok hq (by omega) (by omega)) H
  have hm1 := mul_bd (a := (c : Int)) (b := (Rm : Int) + 2) (A := (C : Int) - 1) (C := (Rm : Int) + 2) (by omega) (by omega) (by omega) (Int.le_refl _)
  have hm2 : ((C : Int) - 1) * ((Rm : Int) + 2) = C * (Rm + 2) - (Rm + 2) := by rw [Int.sub_mul]; omega
  rw [hx, ring_none (by show 1 ≤ (Rm : Int).toNat; omega) (by show (Rm : Int).toNat ≤ 4096; omega) (hz _ (by show mf ≤ mf + c * ((Rm : Int) + 2) ∧ mf + c * ((Rm : Int) + 2) < _; omega)) (hz _ (by show mf ≤ mf + c * ((Rm : Int) + 2) + 2 ∧ mf + c * ((Rm : Int) + 2) + 2 < _; omega))] at hall
  refine wp_call (wpC_mono hall fun w S4 H => ?_)
  exact wp_ret ⟨rfl, H.tl.tl⟩
theorem quiet_ok (L : Lx N C h n J Rm lim g j mf r) (hs : s.cores = C) (hl : (y.ws.length : Int) = r + 3 * C + 1) (hd : Laid N C h n J Rm j mf r y) (hrest : y.ws.length + rest.length = 4096) (hq : Fct.pt q 0 (cw s v (exV N C h n J Rm lim g j mf r) u m o t) ∈ ro) (H : Cx B0 W S (pMem m bl y rest ++ R) ro) :
    wpC EM (.fn (.func 12) [] []) [.ptr q 0] S fun w S' => w = B true ∧ Cx B0 W S' (pMem m bl y rest ++ R) ro := by
  refine wpC_fn (b := Tryz.a12) rfl rfl ?_
  unfold Tryz.a12 Tryz.a12x4 Tryz.a12x3 Tryz.a12x2 Tryz.a12x1 Tryz.a12x0
  refine wp_bind (wp_loop (wpL_for C (fun i vs S' => ∃ a, vs = [I (i : Int), a] ∧ Cx B0 W S' (pMem m bl y rest ++ R) ro) ?_ ?_ ⟨_, rfl, H⟩))
  · rintro i vs S1 hlt ⟨a, rfl, H⟩
    try(refine zz ?_;(repeat constructor);intro _)
    refine wp_ld (o := 0) H hq rfl ?_
    rw [hs]
    refine wp_lss_t (by omega) ?_
    try(refine zz ?_;(repeat constructor);intro _)
    refine wp_bind ?_
    refine wp_call (wpC_mono (flag_ok L hl hd.good hrest hlt hq H) fun w S2 qq => ?_)
    obtain ⟨rfl, H⟩ := qq
    rw [(hd.rn i hlt).2]
    refine wp_neq_f (by omega) ?_
    try(refine zz ?_;(repeat constructor);intro _)
    refine wp_ldn (o := 27) (n := 3) H hq rfl ?_
    try(refine zz ?_;(repeat constructor);intro _)
    refine wp_ld (o := 36) H hq rfl ?_
    refine wp_gcall_t (wp_call (wpC_mono (mailAll_ok L hd.good hrest hlt hd.ml H) fun w S3 H => ?_))
    refine wp_gop_t (wp_leno H 0 rfl ?_)
    refine wp_gop_t (wp_gtr_f (by simp) ?_)
    try(refine zz ?_;(repeat constructor);intro _)
    refine wp_ret ?_
    show wp EM _ _ _
    have := L.hC
    refine wp_add64 (by omega) (by omega) ?_
    exact wp_ret (.inl ⟨rfl, a, rfl, H.dropAt 0⟩)
  · rintro vs S1 ⟨a, rfl, H⟩
    try(refine zz ?_;(repeat constructor);intro _)
    refine wp_ld (o := 0) H hq rfl ?_
    rw [hs]
    refine wp_lss_f (by omega) ?_
    try(refine zz ?_;(repeat constructor);intro _)
    refine wp_ret ⟨by simp, ?_⟩
    show wp EM _ _ _
    exact wp_ret ⟨rfl, rfl, H⟩
end
end Go.Abs
namespace Go.Abs
open Go.Proofs
set_option maxRecDepth 100000
set_option linter.unusedVariables false
open Tsk (Tk tks tchk)
section
variable {B0 S : AH} {W : List Nat} {own R : List Own} {ro : List Fct} {Q : Post} {k : AV → AC} {s : Su} {v u o t : AV} {n N C h J Rm q m bl c : Nat} {lim g j mf r : Int} {y : Me} {rest : List AV}
theorem wp_subU {M : Mach} {a b : Nat} (hb : b ≤ a) (ha : a < 18446744073709551616) (hk : wp M (k (U ((a - b : Nat) : Int))) S Q) : wp M (.op (.bin .sub (U (a : Int)) (U (b : Int))) k) S Q := by
  refine wp_op (v := U ((a - b : Nat) : Int)) ?_ hk
  show pur (bSub (U (a : Int)) (U (b : Int))) S = _
  unfold bSub
  simp only [int2, asInt, vInt, kindEq_refl]
  show pur (some (AV.sc (.int .u64 (wrapF .u64 ((a : Int) - b))))) S = _
  rw [show ((a : Int) - b) = ((a - b : Nat) : Int) by omega, wrapUn (by omega)]; rfl
theorem take0_ok {a b : Nat} (ha : a ≤ 63) (hb : b ≤ 63) : wpC EM (.fn (.func 155) [] []) [U 0, .agg [I (a : Int), I (b : Int)]] S fun w S' => w = I 0 ∧ Grows S S' := by
  refine wpC_fn (b := Tryz.a155) rfl rfl ?_
  have H : Cx S [] S [] [] := Cx.enter (by simp)
  unfold Tryz.a155 Tryz.a155x0
  refine wp_box H rfl fun p S1 H => ?_
  have H : Cx S [] S1 [] [.pt p 0 [I (a : Int), I (b : Int)]] := H
  try(refine zz ?_;(repeat constructor);intro _)
  refine wp_ld (o := 0) H (List.Mem.head _) rfl ?_
  refine wp_shrU (n := 0) (s := a) (by omega) (by omega) ?_
  rw [Nat.zero_div]
  try(refine zz ?_;(repeat constructor);intro _)
  refine wp_ld (o := 1) H (List.Mem.head _) rfl ?_
  have h2 : 1 ≤ 2 ^ b := Nat.one_le_two_pow
  have h3 : 2 ^ b ≤ 2 ^ 63 := Nat.pow_le_pow_right (by omega) hb
  refine wp_shlU (n := 1) (s := b) (by omega) (by omega) ?_
  rw [Nat.one_mul]
  refine wp_subU (a := 2 ^ b) (b := 1) h2 (by omega) ?_
  refine wp_andU (a := 0) (b := 2 ^ b - 1) (by omega) (by omega) ?_
  rw [Nat.zero_and]
  refine wp_convI 0 (by omega) ?_
  exact wp_ret ⟨rfl, rfl, H.grows⟩
theorem getTop0_ok : wpC EM (.fn (.func 236) [] []) [U 0] S fun w S' => w = .tup [.agg [I (-1), I 0], I 0] ∧ Grows S S' := by
  refine wpC_fn (b := Tryz.a236) rfl rfl ?_
  have H : Cx S [] S [] [] := Cx.enter (by simp)
  unfold Tryz.a236 Tryz.a236x1 Tryz.a236x0
  refine wp_fin ?_
  refine wp_alloc H fun p S1 H => ?_
  refine wp_callV H tops_ok fun S2 H => ?_
  refine wp_tmpN H rfl rfl rfl fun z S3 H => ?_
  have H : Cx S [] S3 [.obj p (.row [I 0, I 0])] [.pt z 0 topTab] := H
  refine wp_paddr (i := 0) (by omega) ?_
  refine wp_ldn (o := 0) (n := 2) H (List.Mem.head _) rfl ?_
  refine wp_paddr (i := 1) (by omega) ?_
  refine wp_ldn (o := 2) (n := 2) H (List.Mem.head _) rfl ?_
  refine wp_callV H (take0_ok (a := 0) (b := 16) (by omega) (by omega)) fun S4 H => ?_
  refine wp_chkn (off := 0) (j := 2) (n := 2) (l := [I 16, I 48]) H (List.Mem.head _) (by simp [topTab]) rfl (by intro x hx; simp only [List.mem_cons, List.not_mem_nil, or_false] at hx; rcases hx with rfl | rfl <;> exact beq_num) ?_
  refine wp_sub64 (by omega) (by omega) ?_
  refine wp_callV H (take0_ok (a := 16) (b := 48) (by omega) (by omega)) fun S5 H => ?_
  refine wp_op (v := .agg [I (0 - 1), I 0]) rfl ?_
  refine wp_store (n := 2) H 0 (c := [I 0, I 0]) rfl rfl rfl (by simp) fun S6 H => ?_
  have H : Cx S [] S6 [.obj p (.row [I (-1), I 0])] [.pt z 0 topTab] := H
  refine wp_ret ⟨.inr rfl, ?_⟩
  refine wp_loadoa (n := 2) H 0 rfl (by simp) ?_
  exact wp_ret ⟨rfl, rfl, H.grows⟩
theorem index0_ok : wpC EM (.fn (.func 162) [] []) [.agg (toL N C h lim).cs, U 0] S fun w S' => w = I (-1) ∧ Grows S S' := by
  refine wpC_fn (b := Tryz.a162) rfl rfl ?_
  have H : Cx S [] S [] [] := Cx.enter (by simp)
  unfold Tryz.a162 Tryz.a162x1 Tryz.a162x0
  refine wp_box H rfl fun p S1 H => ?_
  have H : Cx S [] S1 [] [.pt p 0 (toL N C h lim).cs] := H
  refine wp_callV H getTop0_ok fun S2 H => ?_
  try(refine zz ?_;(repeat constructor);intro _)
  refine wp_tmpN H rfl rfl rfl fun z S3 H => ?_
  have H : Cx S [] S3 [] [.pt z 0 [I (-1), I 0], .pt p 0 (toL N C h lim).cs] := H
  try(refine zz ?_;(repeat constructor);intro _)
  refine wp_ld (o := 0) H (List.Mem.head _) rfl ?_
  try(refine zz ?_;(repeat constructor);intro _)
  refine wp_ld (o := 5) H (List.Mem.tail _ (List.Mem.head _)) rfl ?_
  refine wp_geq_f (by show (-1 : Int) < N; omega) ?_
  try(refine zz ?_;(repeat constructor);intro _)
  refine wp_ld (o := 0) H (List.Mem.head _) rfl ?_
  exact wp_ret ⟨rfl, rfl, H.grows⟩
theorem methHead {v : AV} : methodOf EM.P 137 v "coxswain/tower.cells" = some (413, v) := by kernel_rfl
theorem headAt_ok (hN : N ≤ 128) (hC : C ≤ 64) (hh : 1 ≤ h ∧ h ≤ 4) : wpC EM (.fn (.func 61) [] []) [.agg [I (6 + 2 * N + C), I 1, I h], I 0, I 0] S fun w S' => w = I (6 + 2 * N + C) ∧ Grows S S' := by
  refine wpC_fn (b := Tryz.a61) rfl rfl ?_
  have H : Cx S [] S [] [] := Cx.enter (by simp)
  unfold Tryz.a61 Tryz.a61x3 Tryz.a61x2 Tryz.a61x1 Tryz.a61x0
  refine wp_box H rfl fun p S1 H => ?_
  have H : Cx S [] S1 [] [.pt p 0 [I (6 + 2 * N + C), I 1, I h]] := H
  refine wp_lss_f (by omega) ?_
  try(refine zz ?_;(repeat constructor);intro _)
  refine wp_ld (o := 1) H (List.Mem.head _) rfl ?_
  refine wp_gop_t (wp_geq_f (by omega) ?_)
  try(refine zz ?_;(repeat constructor);intro _)
  refine wp_lss_f (by omega) ?_
  try(refine zz ?_;(repeat constructor);intro _)
  refine wp_ld (o := 2) H (List.Mem.head _) rfl ?_
  try(refine zz ?_;(repeat constructor);intro _)
  refine wp_callV H (wpC_method methHead (headCells_ok (h := (h : Int)))) fun S2 H => ?_
  refine wp_gop_t (wp_geq_f (by omega) ?_)
  try(refine zz ?_;(repeat constructor);intro _)
  refine wp_ld (o := 0) H (List.Mem.head _) rfl ?_
  try(refine zz ?_;(repeat constructor);intro _)
  refine wp_ld (o := 2) H (List.Mem.head _) rfl ?_
  refine wp_callV H (wpC_method methHead (headCells_ok (h := (h : Int)))) fun S3 H => ?_
  refine wp_ck (o := 0) H (List.Mem.head _) rfl beq_num ?_
  refine wp_mul64 (by omega) (by omega) ?_
  refine wp_add64 (by omega) (by omega) ?_
  refine wp_add64 (by omega) (by omega) ?_
  exact wp_ret ⟨rfl, by rw [show (6 + 2 * (N : Int) + C) + 0 * h + 0 = 6 + 2 * (N : Int) + C by omega]; rfl, H.grows⟩
theorem next0_ok (hN : 1 ≤ N ∧ N ≤ 128) (hC : C ≤ 64) (hh : 1 ≤ h ∧ h ≤ 4) : wpC EM (.fn (.func 88) [] []) [.agg (toL N C h lim).cs, I (-1), I 0] S fun w S' => w = I (6 + 2 * N + C) ∧ Grows S S' := by
  refine wpC_fn (b := Tryz.a88) rfl rfl ?_
  have H : Cx S [] S [] [] := Cx.enter (by simp)
  unfold Tryz.a88 Tryz.a88x0
  refine wp_box H rfl fun p S1 H => ?_
  have H : Cx S [] S1 [] [.pt p 0 (toL N C h lim).cs] := H
  refine wp_lss_f (by omega) ?_
  try(refine zz ?_;(repeat constructor);intro _)
  refine wp_geq_f (by omega) ?_
  try(refine zz ?_;(repeat constructor);intro _)
  refine wp_ldn (o := 0) (n := 13) H (List.Mem.head _) rfl ?_
  refine wp_add64 (by omega) (by omega) ?_
  have hat : ∀ {S : AH}, wpC EM (.fn (.func 29) [] []) [.agg (toL N C h lim).cs, I (-1), I (4 + 0)] S fun w S' => w = I (6 + 2 * N + C) ∧ Grows S S' := by
    intro S
    refine wpC_fn (b := Tryz.a29) rfl rfl ?_
    have H : Cx S [] S [] [] := Cx.enter (by simp)
    unfold Tryz.a29 Tryz.a29x4 Tryz.a29x3 Tryz.a29x2 Tryz.a29x1 Tryz.a29x0
    refine wp_box H rfl fun p S1 H => ?_
    have H : Cx S [] S1 [] [.pt p 0 (toL N C h lim).cs] := H
    refine wp_bind ?_
    refine wp_ldn (o := 0) (n := 13) H (List.Mem.head _) rfl ?_
    refine wp_callV H (sound_ok (t := toL N C h lim)) fun S2 H => ?_
    rw [decide_eq_true (toL_ok hN hC hh)]
    refine wp_notT ?_
    try(refine zz ?_;(repeat constructor);intro _)
    refine wp_neq_f (by omega) ?_
    try(refine zz ?_;(repeat constructor);intro _)
    refine wp_lss_f (by omega) ?_
    try(refine zz ?_;(repeat constructor);intro _)
    refine wp_ld (o := 2) H (List.Mem.head _) rfl ?_
    refine wp_gop_t (wp_add64 (by show _ ≤ (4 + h : Int); omega) (by show (4 + h : Int) ≤ _; omega) ?_)
    refine wp_gop_t (wp_geq_f (by show (4 + 0 : Int) < 4 + h; omega) ?_)
    try(refine zz ?_;(repeat constructor);intro _)
    refine wp_ret ?_
    show wp EM _ _ _
    refine wp_ldn (o := 0) (n := 13) H (List.Mem.head _) rfl ?_
    refine wp_callV H (heads_ok (t := toL N C h lim)) fun S3 H => ?_
    refine wp_sub64 (by omega) (by omega) ?_
    refine wp_callV H (headAt_ok (by omega) hC hh) fun S4 H => ?_
    exact wp_ret ⟨rfl, rfl, H.grows⟩
  refine wp_callV H hat fun S2 H => ?_
  exact wp_ret ⟨rfl, rfl, H.grows⟩
theorem memAt_ok {vw : AV} {a : Nat} (ha : a < y.ws.length) (hm : Fct.sl vw 1 (uints y.ws) ∈ ro) (H : Cx B0 W S own ro) : wpC EM (.fn (.func 87) [] []) [vw, I (a : Int)] S fun w S' => w = U (y.word (a : Int)) ∧ S' = S := by
  refine wpC_fn (b := Tryz.a87) rfl rfl ?_
  unfold Tryz.a87 Tryz.a87x0
  refine wp_lss_f (by omega) ?_
  try(refine zz ?_;(repeat constructor);intro _)
  refine wp_len H hm ?_
  rw [uints_len]
  refine wp_gop_t (wp_geq_f (by omega) ?_)
  try(refine zz ?_;(repeat constructor);intro _)
  refine wp_saddr H hm (uints_word ha) fun id off H1 => ?_
  refine wp_load0 H1 (List.Mem.head _) rfl ?_
  exact wp_ret ⟨rfl, rfl, rfl⟩
end
end Go.Abs
namespace Go.Abs
open Go.Proofs
set_option maxRecDepth 100000
set_option linter.unusedVariables false
open Tsk (Tk tks tchk)
theorem beq_toL {N C h : Nat} {lim : Int} : ∀ x ∈ (toL N C h lim).cs, AV.beq x x = true := by
  intro x hx
  simp only [To.cs, List.mem_cons, List.not_mem_nil, or_false] at hx
  rcases hx with rfl | rfl | rfl | rfl | rfl | rfl | rfl | rfl | rfl | rfl | rfl | rfl | rfl <;> exact beq_num
section
variable {B0 S : AH} {W : List Nat} {own R : List Own} {ro : List Fct} {Q : Post} {k : AV → AC} {s : Su} {v u o t : AV} {n N C h J Rm q m bl c : Nat} {lim g j mf r : Int} {y : Me} {rest : List AV}
theorem live_ok (hN : 1 ≤ N ∧ N ≤ 128) (hC : C ≤ 64) (hh : 1 ≤ h ∧ h ≤ 4) (hl : 6 + 2 * N + C < y.ws.length) (hg : y.good) (hrest : y.ws.length + rest.length = 4096) (hz : y.word (6 + 2 * N + C) = 0) (H : Cx B0 W S (pMem m bl y rest ++ R) ro) :
    wpC EM (.fn (.func 44) [] []) [.agg (toL N C h lim).cs, .ptr m 0] S fun w S' => w = Ns ∧ Cx B0 W S' (pMem m bl y rest ++ R) ro := by
  refine wpC_fn (b := Tryz.a44) rfl rfl ?_
  unfold Tryz.a44 Tryz.a44x5 Tryz.a44x4
  refine wp_box H rfl fun p S1 H => ?_
  have H : Cx B0 W S1 (pMem m bl y rest ++ R) (.pt p 0 (toL N C h lim).cs :: ro) := H
  refine wp_alloc H fun z S2 H => ?_
  refine wp_ldn (o := 0) (n := 13) H (List.Mem.head _) rfl ?_
  refine wp_callV H (sound_ok (t := toL N C h lim)) fun S3 H => ?_
  rw [decide_eq_true (toL_ok hN hC hh)]
  refine wp_notT ?_
  try(refine zz ?_;(repeat constructor);intro _)
  refine wp_call (wpC_mono (words_ok (R := .obj z (.row [Ns]) :: R) hg.1 hrest (H.permS swap1)) fun vw S4 H => ?_)
  have hvw := slOk_one (ownSl_ok (H.oh _ (List.Mem.head _)))
  have H := H.toRo (i := 0) rfl
  have H : Cx B0 W S4 (pMem m bl y rest ++ (.obj z (.row [Ns]) :: R)) (.sl vw 1 (uints y.ws) :: .pt p 0 (toL N C h lim).cs :: ro) := H
  refine wp_alloc H fun z7 S5 H => ?_
  refine wp_set1 (j := 0) H 0 rfl (by simp) hvw fun S6 H => ?_
  refine wp_row (j := 0) H 0 rfl rfl ?_
  have H := H.dropAt 0
  have H : Cx B0 W S6 (pMem m bl y rest ++ (.obj z (.row [Ns]) :: R)) (.sl vw 1 (uints y.ws) :: .pt p 0 (toL N C h lim).cs :: ro) := H
  refine wp_ldn (o := 0) (n := 13) (cs := (toL N C h lim).cs) H (by repeat (first | exact List.Mem.head _ | apply List.Mem.tail)) rfl ?_
  refine wp_call (wpC_fn (b := Tryz.a85) rfl rfl ?_)
  unfold Tryz.a85
  refine wp_box H hvw.1 fun p1 S7 H => ?_
  have H : Cx B0 W S7 (pMem m bl y rest ++ (.obj z (.row [Ns]) :: R)) (.pt p1 0 vw.cells :: .sl vw 1 (uints y.ws) :: .pt p 0 (toL N C h lim).cs :: ro) := H
  rw [hvw.2] at H
  refine wp_box H rfl fun p2 S8 H => ?_
  refine wp_box H rfl fun p3 S9 H => ?_
  have H : Cx B0 W S9 (pMem m bl y rest ++ (.obj z (.row [Ns]) :: R)) (.pt p3 0 [I 0] :: .pt p2 0 (toL N C h lim).cs :: .pt p1 0 [vw] :: .sl vw 1 (uints y.ws) :: .pt p 0 (toL N C h lim).cs :: ro) := H
  have back : ∀ {S own}, Cx B0 W S own (.pt p3 0 [I 0] :: .pt p2 0 (toL N C h lim).cs :: .pt p1 0 [vw] :: .sl vw 1 (uints y.ws) :: .pt p 0 (toL N C h lim).cs :: ro) → Cx B0 W S own ro := fun H => H.tl.tl.tl.tl.tl
  have m3 : Fct.pt p3 0 [I 0] ∈ (.pt p3 0 [I 0] :: .pt p2 0 (toL N C h lim).cs :: .pt p1 0 [vw] :: .sl vw 1 (uints y.ws) :: .pt p 0 (toL N C h lim).cs :: ro) := by repeat (first | exact List.Mem.head _ | apply List.Mem.tail)
  have m2 : Fct.pt p2 0 (toL N C h lim).cs ∈ (.pt p3 0 [I 0] :: .pt p2 0 (toL N C h lim).cs :: .pt p1 0 [vw] :: .sl vw 1 (uints y.ws) :: .pt p 0 (toL N C h lim).cs :: ro) := by repeat (first | exact List.Mem.head _ | apply List.Mem.tail)
  have m1 : Fct.pt p1 0 [vw] ∈ (.pt p3 0 [I 0] :: .pt p2 0 (toL N C h lim).cs :: .pt p1 0 [vw] :: .sl vw 1 (uints y.ws) :: .pt p 0 (toL N C h lim).cs :: ro) := by repeat (first | exact List.Mem.head _ | apply List.Mem.tail)
  have mw : Fct.sl vw 1 (uints y.ws) ∈ (.pt p3 0 [I 0] :: .pt p2 0 (toL N C h lim).cs :: .pt p1 0 [vw] :: .sl vw 1 (uints y.ws) :: .pt p 0 (toL N C h lim).cs :: ro) := by repeat (first | exact List.Mem.head _ | apply List.Mem.tail)
  generalize (Fct.pt p3 0 [I 0] :: .pt p2 0 (toL N C h lim).cs :: .pt p1 0 [vw] :: .sl vw 1 (uints y.ws) :: .pt p 0 (toL N C h lim).cs :: ro) = ro1 at H back m1 m2 m3 mw
  refine wp_ret ⟨rfl, ?_⟩
  show wp EM _ _ _
  refine wp_bind (wp_rngO H (by intro i e; cases e) (fun S' => Cx B0 W S' (pMem m bl y rest ++ (.obj z (.row [Ns]) :: R)) ro1) ?_ ?_)
  · intro l S10 HL
    clear H
    refine wpC_fn (b := Tryz.a161) rfl rfl ?_
    unfold Tryz.a161 Tryz.a161x6 Tryz.a161x5 Tryz.a161x4 Tryz.a161x3 Tryz.a161x2 Tryz.a161x1 Tryz.a161x0
    refine wp_ldn (o := 0) (n := 13) HL m2 rfl ?_
    refine wp_ld (o := 0) HL m1 rfl ?_
    refine wp_ldn (o := 0) (n := 13) HL m2 rfl ?_
    refine wp_ld (o := 0) HL m3 rfl ?_
    refine wp_callV HL (next0_ok (N := N) (C := C) (h := h) (lim := lim) hN hC hh) fun S11 HL => ?_
    refine wp_ckn (n := 13) HL m2 rfl rfl beq_toL ?_
    have hb : AV.beq vw vw = true := beq_sl (HL.rh _ mw)
    refine wp_ck (o := 0) HL m1 rfl hb ?_
    have ha := memAt_ok (a := 6 + 2 * N + C) (by omega) mw HL
    rw [show ((6 + 2 * N + C : Nat) : Int) = 6 + 2 * (N : Int) + C by omega, hz] at ha
    refine wp_call (wpC_mono ha fun w S12 qq => ?_)
    obtain ⟨rfl, rfl⟩ := qq
    refine wp_ckn (n := 13) HL m2 rfl rfl beq_toL ?_
    refine wp_callV HL (index0_ok (N := N) (C := C) (h := h) (lim := lim)) fun S12 HL => ?_
    refine wp_bind (wp_loop (wpL_for 0 (fun i vs S' => vs = [I 0, I (-1)] ∧ Cx B0 W S' (.obj l (.loop .ready none 1 fun v12 => Tryz.a44x3 (.ptr p 0) (.ptr z 0) (.ptr z7 0) v12) :: (pMem m bl y rest ++ (.obj z (.row [Ns]) :: R))) ro1) (fun i vs S hi => absurd hi (by omega)) ?_ ⟨rfl, HL⟩))
    rintro vs S13 ⟨rfl, H⟩
    refine wp_geq_f (by omega) ?_
    try(refine zz ?_;(repeat constructor);intro _)
    refine wp_ret ⟨by simp, ?_⟩
    show wp EM _ _ _
    exact wp_ret ⟨rfl, H.oh _ (List.Mem.head _), fun S2 g1 g2 => H.other (n := 0) rfl g1 g2⟩
  · intro S10 H
    refine wp_ret ?_
    show wp EM _ _ _
    have H : Cx B0 W S10 (.obj m (.row (y.prow bl)) :: .obj bl (.row (y.ws.map U ++ rest)) :: .obj z (.row [Ns]) :: R) ro1 := H
    refine wp_row (j := 0) H 2 rfl rfl ?_
    exact wp_ret ⟨rfl, rfl, back (H.dropAt 2)⟩
theorem read1_ok : wpC EM (.fn (.func 81) [] []) [U 4294967297] S fun w S' => w = .agg [I 1, I 0, I 1] ∧ Grows S S' := by
  refine wpC_fn (b := Tryz.a81) rfl rfl ?_
  have H : Cx S [] S [] [] := Cx.enter (by simp)
  unfold Tryz.a81 Tryz.a81x1 Tryz.a81x0
  refine wp_fin ?_
  refine wp_alloc H fun p S1 H => ?_
  refine wp_andU (a := 4294967297) (b := 255) (by omega) (by omega) ?_
  refine wp_convI (4294967297 &&& 255) (by decide) ?_
  refine wp_shrU (n := 4294967297) (s := 8) (by omega) (by omega) ?_
  refine wp_andU (a := 4294967297 / 2 ^ 8) (b := 255) (by omega) (by omega) ?_
  refine wp_convI (4294967297 / 2 ^ 8 &&& 255) (by decide) ?_
  refine wp_shrU (n := 4294967297) (s := 32) (by omega) (by omega) ?_
  refine wp_convI (4294967297 / 2 ^ 32) (by decide) ?_
  refine wp_op (v := .agg [I 1, I 0, I 1]) rfl ?_
  refine wp_store (n := 3) H 0 (c := [I 0, I 0, I 0]) rfl rfl rfl (by simp) fun S6 H => ?_
  have H : Cx S [] S6 [.obj p (.row [I 1, I 0, I 1])] [] := H
  refine wp_ret ⟨.inr rfl, ?_⟩
  refine wp_loadoa (n := 3) H 0 rfl (by simp) ?_
  exact wp_ret ⟨rfl, rfl, H.grows⟩
def frees (n : Nat) : List (List AV) := List.replicate n [I 1, I 0, I 1]
theorem frees_succ (n : Nat) : frees (n + 1) = frees n ++ [[I 1, I 0, I 1]] := List.replicate_succ'
theorem jobAll_ok (L : Lx N C h n J Rm lim g j mf r) (hl : (y.ws.length : Int) = r + 3 * C + 1) (hg : y.good) (hrest : y.ws.length + rest.length = 4096) (hz : ∀ k : Nat, k < J → y.word (j + k) = 4294967297) (H : Cx B0 W S (pMem m bl y rest ++ R) ro) :
    wpC EM (.fn (.func 39) [] []) [.agg [I j, I (j + J), I (j + 2 * J), I (j + 2 * J + 1), I (J : Int)], .ptr m 0] S fun w S' => Cx B0 W S' (.sl w 3 (frees J) :: (pMem m bl y rest ++ R)) ro := by
  refine wpC_fn (b := Tryz.a39) rfl rfl ?_
  obtain ⟨hN, hC, hh, hn, hJ, hR, hl2, hP, hM, hg2, hj, hm, hr⟩ := L
  unfold Tryz.a39 Tryz.a39x5 Tryz.a39x4 Tryz.a39x3 Tryz.a39x2 Tryz.a39x1 Tryz.a39x0
  refine wp_box H rfl fun p S1 H => ?_
  have H : Cx B0 W S1 (pMem m bl y rest ++ R) (.pt p 0 [I j, I (j + J), I (j + 2 * J), I (j + 2 * J + 1), I (J : Int)] :: ro) := H
  refine wp_ldn (o := 0) (n := 5) H (List.Mem.head _) rfl ?_
  refine wp_callV H (sizedJ_ok (n := J) (by omega)) fun S2 H => ?_
  refine wp_notT ?_
  try(refine zz ?_;(repeat constructor);intro _)
  refine wp_call (wpC_mono (words_ok hg.1 hrest H) fun vw S4 H => ?_)
  have H := H.toRo (i := 0) rfl
  have H : Cx B0 W S4 (pMem m bl y rest ++ R) (.sl vw 1 (uints y.ws) :: .pt p 0 [I j, I (j + J), I (j + 2 * J), I (j + 2 * J + 1), I (J : Int)] :: ro) := H
  have mp : Fct.pt p 0 [I j, I (j + J), I (j + 2 * J), I (j + 2 * J + 1), I (J : Int)] ∈ (.sl vw 1 (uints y.ws) :: .pt p 0 [I j, I (j + J), I (j + 2 * J), I (j + 2 * J + 1), I (J : Int)] :: ro) := by repeat (first | exact List.Mem.head _ | apply List.Mem.tail)
  have mw : Fct.sl vw 1 (uints y.ws) ∈ (.sl vw 1 (uints y.ws) :: .pt p 0 [I j, I (j + J), I (j + 2 * J), I (j + 2 * J + 1), I (J : Int)] :: ro) := by repeat (first | exact List.Mem.head _ | apply List.Mem.tail)
  try(refine zz ?_;(repeat constructor);intro _)
  refine wp_ld (o := 4) H mp rfl ?_
  refine wp_bind (wp_loop (wpL_for J (fun i vs S' => ∃ a b, vs = [I (i : Int), a, b] ∧ Cx B0 W S' (.sl a 3 (frees i) :: (pMem m bl y rest ++ R)) (.sl vw 1 (uints y.ws) :: .pt p 0 [I j, I (j + J), I (j + 2 * J), I (j + 2 * J + 1), I (J : Int)] :: ro)) ?_ ?_ ⟨_, _, rfl, H.addNilS 3⟩))
  · rintro i vs S5 hlt ⟨a, b, rfl, H⟩
    refine wp_lss_t (by omega) ?_
    try(refine zz ?_;(repeat constructor);intro _)
    refine wp_bind ?_
    try(refine zz ?_;(repeat constructor);intro _)
    refine wp_ld (o := 0) H mp rfl ?_
    refine wp_add64 (by omega) (by omega) ?_
    refine wp_geq_t (by omega) ?_
    try(refine zz ?_;(repeat constructor);intro _)
    refine wp_len H mw ?_
    rw [uints_len]
    refine wp_gop_t (wp_lss_t (by omega) ?_)
    try(refine zz ?_;(repeat constructor);intro _)
    refine wp_bind ?_
    try(refine zz ?_;(repeat constructor);intro _)
    obtain ⟨e, he⟩ : ∃ e : Nat, j + (i : Int) = (e : Int) := ⟨(j + i).toNat, by omega⟩
    have hw := hz i hlt
    rw [he] at hw ⊢
    refine wp_saddr H mw (uints_word (by omega)) fun id off H1 => ?_
    refine wp_load0 H1 (List.Mem.head _) rfl ?_
    rw [hw]
    refine wp_ret ?_
    show wp EM _ _ _
    refine wp_callV H read1_ok fun S6 H => ?_
    refine wp_litsG H [[I 1, I 0, I 1]] rfl rfl rfl (by simp) fun x S7 H => ?_
    have H := H.toRo (i := 0) rfl
    refine wp_appendR (N := [[I 1, I 0, I 1]]) (L := frees i) H 0 rfl (List.Mem.head _) (by simp) ?_ ?_ fun a2 S8 H => ?_
    · simp only [frees, List.length_replicate]; unfold maxBytes; simp; omega
    · simp only [frees, List.length_replicate]; unfold maxLenN; simp; omega
    refine wp_ret ?_
    show wp EM _ _ _
    refine wp_add64 (by omega) (by omega) ?_
    refine wp_ret (.inl ⟨rfl, a2, _, rfl, ?_⟩)
    rw [frees_succ]
    exact H.tl
  · rintro vs S5 ⟨a, b, rfl, H⟩
    refine wp_lss_f (by omega) ?_
    try(refine zz ?_;(repeat constructor);intro _)
    refine wp_ret ⟨by simp, ?_⟩
    show wp EM _ _ _
    exact wp_ret ⟨rfl, H.tl.tl⟩
end
end Go.Abs
namespace Go.Abs
open Go.Proofs
set_option maxRecDepth 100000
set_option linter.unusedVariables false
open Tsk (Tk tks tchk)
section
variable {B0 S : AH} {W : List Nat} {own R : List Own} {ro : List Fct} {Q : Post} {k : AV → AC} {s : Su} {v u o t : AV} {n N C h J Rm q m bl c : Nat} {lim g j mf r : Int} {y : Me} {rest : List AV}
theorem wp_lenNs {M : Mach} (hk : wp M (k (I 0)) S Q) : wp M (.op (.len false Ns) k) S Q := wp_op (S1 := S) (v := I 0) rfl hk
theorem least_ok (L : Lx N C h n J Rm lim g j mf r) (hs : s.cores = C) (hl : (y.ws.length : Int) = r + 3 * C + 1) (hd : Laid N C h n J Rm j mf r y) (hrest : y.ws.length + rest.length = 4096) (hq : Fct.pt q 0 (cw s v (exV N C h n J Rm lim g j mf r) u m o t) ∈ ro) (H : Cx B0 W S (pMem m bl y rest ++ R) ro) :
    wpC EM (.fn (.func 13) [] []) [.ptr q 0] S fun w S' => w = B true ∧ Cx B0 W S' (pMem m bl y rest ++ R) ro := by
  refine wpC_fn (b := Tryz.a13) rfl rfl ?_
  obtain ⟨hN, hC, hh, hn, hJ, hR, hl2, hP, hM, hg2, hj, hm, hr⟩ := id L
  unfold Tryz.a13 Tryz.a13x10 Tryz.a13x9 Tryz.a13x8 Tryz.a13x7 Tryz.a13x6 Tryz.a13x5 Tryz.a13x4 Tryz.a13x3 Tryz.a13x2 Tryz.a13x1 Tryz.a13x0
  refine wp_bind (wp_loop (wpL_for C (fun i vs S' => vs = [I (i : Int), U 0, I 0] ∧ Cx B0 W S' (pMem m bl y rest ++ R) ro) ?_ ?_ ⟨rfl, H⟩))
  · rintro i vs S1 hlt ⟨rfl, H⟩
    try(refine zz ?_;(repeat constructor);intro _)
    refine wp_ld (o := 0) H hq rfl ?_
    rw [hs]
    refine wp_lss_t (by omega) ?_
    try(refine zz ?_;(repeat constructor);intro _)
    refine wp_bind ?_
    refine wp_call (wpC_mono (run_ok L hl hd.good hrest hlt hq H) fun w S2 qq => ?_)
    obtain ⟨rfl, H⟩ := qq
    rw [(hd.rn i hlt).1]
    refine wp_neq_f (by omega) ?_
    refine wp_bind ?_
    try(refine zz ?_;(repeat constructor);intro _)
    refine wp_ret ?_
    show wp EM _ _ _
    refine wp_ret ?_
    show wp EM _ _ _
    refine wp_add64 (by omega) (by omega) ?_
    exact wp_ret (.inl ⟨rfl, rfl, H⟩)
  · rintro vs S1 ⟨rfl, H⟩
    try(refine zz ?_;(repeat constructor);intro _)
    refine wp_ld (o := 0) H hq rfl ?_
    rw [hs]
    refine wp_lss_f (by omega) ?_
    try(refine zz ?_;(repeat constructor);intro _)
    refine wp_ret ⟨by simp, ?_⟩
    show wp EM _ _ _
    try(refine zz ?_;(repeat constructor);intro _)
    refine wp_ldn (o := 7) (n := 13) H hq rfl ?_
    try(refine zz ?_;(repeat constructor);intro _)
    refine wp_ld (o := 36) H hq rfl ?_
    have hz := hd.hd 0 (by omega)
    rw [show 6 + 2 * (N : Int) + C + ((0 : Nat) : Int) = 6 + 2 * (N : Int) + C by omega] at hz
    refine wp_call (wpC_mono (live_ok (N := N) (C := C) (h := h) (lim := lim) hN hC.2 hh (by omega) hd.good hrest hz H) fun w S2 qq => ?_)
    obtain ⟨rfl, H⟩ := qq
    refine wp_bind (wp_loop (wpL_for 0 (fun i vs S' => vs = [I 0, B false] ∧ Cx B0 W S' (pMem m bl y rest ++ R) ro) (fun i vs S hi => absurd hi (by omega)) ?_ ⟨rfl, H⟩))
    rintro vs S13 ⟨rfl, H⟩
    refine wp_lenNs ?_
    refine wp_lss_f (by omega) ?_
    try(refine zz ?_;(repeat constructor);intro _)
    refine wp_ret ⟨by simp, ?_⟩
    show wp EM _ _ _
    try(refine zz ?_;(repeat constructor);intro _)
    refine wp_ld (o := 0) H hq rfl ?_
    rw [hs]
    refine wp_eql_f (by omega) ?_
    try(refine zz ?_;(repeat constructor);intro _)
    refine wp_lenNs ?_
    refine wp_gop_t (wp_eql_t rfl ?_)
    try(refine zz ?_;(repeat constructor);intro _)
    exact wp_ret ⟨rfl, rfl, H⟩
theorem places_ok (L : Lx N C h n J Rm lim g j mf r) (hs : s.cores = C) (hs2 : s.jobs = J) (hl : (y.ws.length : Int) = r + 3 * C + 1) (hd : Laid N C h n J Rm j mf r y) (hrest : y.ws.length + rest.length = 4096) (hq : Fct.pt q 0 (cw s v (exV N C h n J Rm lim g j mf r) u m o t) ∈ ro) (H : Cx B0 W S (pMem m bl y rest ++ R) ro) :
    wpC EM (.fn (.func 38) [] []) [.ptr q 0] S fun w S' => w = .tup [Ns, B true] ∧ Cx B0 W S' (pMem m bl y rest ++ R) ro := by
  refine wpC_fn (b := Tryz.a38) rfl rfl ?_
  obtain ⟨hN, hC, hh, hn, hJ, hR, hl2, hP, hM, hg2, hj, hm, hr⟩ := id L
  unfold Tryz.a38 Tryz.a38x33 Tryz.a38x32 Tryz.a38x31 Tryz.a38x30 Tryz.a38x29 Tryz.a38x28 Tryz.a38x27 Tryz.a38x26 Tryz.a38x25 Tryz.a38x24 Tryz.a38x23 Tryz.a38x22 Tryz.a38x21 Tryz.a38x20 Tryz.a38x19 Tryz.a38x18 Tryz.a38x17 Tryz.a38x16 Tryz.a38x15 Tryz.a38x14 Tryz.a38x13 Tryz.a38x12 Tryz.a38x11 Tryz.a38x10 Tryz.a38x9 Tryz.a38x8 Tryz.a38x7 Tryz.a38x6 Tryz.a38x5 Tryz.a38x4 Tryz.a38x3 Tryz.a38x2 Tryz.a38x1 Tryz.a38x0
  refine wp_bind (wp_loop (wpL_for C (fun i vs S' => ∃ w, vs = [I (i : Int), Ns, B false, Ns, w] ∧ Cx B0 W S' (pMem m bl y rest ++ R) ro) ?_ ?_ ⟨_, rfl, H⟩))
  · rintro i vs S1 hlt ⟨w0, rfl, H⟩
    try(refine zz ?_;(repeat constructor);intro _)
    refine wp_ld (o := 0) H hq rfl ?_
    rw [hs]
    refine wp_lss_t (by omega) ?_
    try(refine zz ?_;(repeat constructor);intro _)
    refine wp_bind ?_
    try(refine zz ?_;(repeat constructor);intro _)
    refine wp_ldn (o := 27) (n := 3) H hq rfl ?_
    try(refine zz ?_;(repeat constructor);intro _)
    refine wp_ld (o := 36) H hq rfl ?_
    refine wp_call (wpC_mono (mailAll_ok L hd.good hrest hlt hd.ml H) fun w S3 H => ?_)
    refine wp_bind (wp_loop (wpL_for 0 (fun i2 vs S' => vs = [I 0, Ns, B false, Ns] ∧ Cx B0 W S' (.sl w 1 [] :: (pMem m bl y rest ++ R)) ro) (fun i vs S hi => absurd hi (by omega)) ?_ ⟨rfl, H⟩))
    rintro vs S13 ⟨rfl, H⟩
    refine wp_leno H 0 rfl ?_
    refine wp_lss_f (by simp) ?_
    try(refine zz ?_;(repeat constructor);intro _)
    refine wp_ret ⟨by simp, ?_⟩
    show wp EM _ _ _
    refine wp_ret ?_
    show wp EM _ _ _
    refine wp_add64 (by omega) (by omega) ?_
    exact wp_ret (.inl ⟨rfl, _, rfl, H.dropAt 0⟩)
  · rintro vs S1 ⟨w0, rfl, H⟩
    try(refine zz ?_;(repeat constructor);intro _)
    refine wp_ld (o := 0) H hq rfl ?_
    rw [hs]
    refine wp_lss_f (by omega) ?_
    try(refine zz ?_;(repeat constructor);intro _)
    refine wp_ret ⟨by simp, ?_⟩
    show wp EM _ _ _
    try(refine zz ?_;(repeat constructor);intro _)
    refine wp_ldn (o := 7) (n := 13) H hq rfl ?_
    try(refine zz ?_;(repeat constructor);intro _)
    refine wp_ld (o := 36) H hq rfl ?_
    have hz := hd.hd 0 (by omega)
    rw [show 6 + 2 * (N : Int) + C + ((0 : Nat) : Int) = 6 + 2 * (N : Int) + C by omega] at hz
    refine wp_call (wpC_mono (live_ok (N := N) (C := C) (h := h) (lim := lim) hN hC.2 hh (by omega) hd.good hrest hz H) fun w S2 qq => ?_)
    obtain ⟨rfl, H⟩ := qq
    refine wp_bind (wp_loop (wpL_for 0 (fun i vs S' => vs = [I 0, Ns, B false, Ns] ∧ Cx B0 W S' (pMem m bl y rest ++ R) ro) (fun i vs S hi => absurd hi (by omega)) ?_ ⟨rfl, H⟩))
    rintro vs S13 ⟨rfl, H⟩
    refine wp_lenNs ?_
    refine wp_lss_f (by omega) ?_
    try(refine zz ?_;(repeat constructor);intro _)
    refine wp_ret ⟨by simp, ?_⟩
    show wp EM _ _ _
    refine wp_bind (wp_loop (wpL_for C (fun i vs S' => vs = [I (i : Int), Ns, B false, Ns] ∧ Cx B0 W S' (pMem m bl y rest ++ R) ro) ?_ ?_ ⟨rfl, H⟩))
    · rintro i vs S1 hlt ⟨rfl, H⟩
      try(refine zz ?_;(repeat constructor);intro _)
      refine wp_ld (o := 0) H hq rfl ?_
      rw [hs]
      refine wp_lss_t (by omega) ?_
      try(refine zz ?_;(repeat constructor);intro _)
      refine wp_bind ?_
      refine wp_call (wpC_mono (own_ok L hl hd.good hrest hlt hq H) fun w S2 qq => ?_)
      obtain ⟨rfl, H⟩ := qq
      rw [hd.ow i hlt]
      try(refine zz ?_;(repeat constructor);intro _)
      refine wp_ld (o := 1) H hq rfl ?_
      rw [hs2]
      refine wp_convU J (by omega) ?_
      refine wp_gtr_f (by omega) ?_
      try(refine zz ?_;(repeat constructor);intro _)
      refine wp_eql_t rfl ?_
      try(refine zz ?_;(repeat constructor);intro _)
      refine wp_call (wpC_mono (run_ok L hl hd.good hrest hlt hq H) fun w S2 qq => ?_)
      obtain ⟨rfl, H⟩ := qq
      rw [(hd.rn i hlt).1]
      refine wp_gop_t (wp_eql_t rfl ?_)
      refine wp_gop_t (wp_op (S1 := S2) (v := B false) (by kernel_rfl) ?_)
      try(refine zz ?_;(repeat constructor);intro _)
      refine wp_neq_f (by omega) ?_
      try(refine zz ?_;(repeat constructor);intro _)
      refine wp_neq_f (by omega) ?_
      refine wp_bind ?_
      try(refine zz ?_;(repeat constructor);intro _)
      refine wp_ret ?_
      show wp EM _ _ _
      refine wp_ret ?_
      show wp EM _ _ _
      refine wp_add64 (by omega) (by omega) ?_
      exact wp_ret (.inl ⟨rfl, rfl, H⟩)
    · rintro vs S1 ⟨rfl, H⟩
      try(refine zz ?_;(repeat constructor);intro _)
      refine wp_ld (o := 0) H hq rfl ?_
      rw [hs]
      refine wp_lss_f (by omega) ?_
      try(refine zz ?_;(repeat constructor);intro _)
      refine wp_ret ⟨by simp, ?_⟩
      show wp EM _ _ _
      exact wp_ret ⟨rfl, rfl, H⟩
end
end Go.Abs
namespace Go.Abs
open Go.Proofs
set_option maxRecDepth 100000
set_option linter.unusedVariables false
open Tsk (Tk tks tchk)
section
variable {B0 S : AH} {W : List Nat} {own R : List Own} {ro : List Fct} {Q : Post} {k : AV → AC} {s : Su} {v u o t : AV} {n N C h J Rm q m bl c : Nat} {lim g j mf r : Int} {y : Me} {rest : List AV}
theorem lies_ok (L : Lx N C h n J Rm lim g j mf r) (hs : s.cores = C) (hs2 : s.jobs = J) (hl : (y.ws.length : Int) = r + 3 * C + 1) (hd : Laid N C h n J Rm j mf r y) (hrest : y.ws.length + rest.length = 4096) (hq : Fct.pt q 0 (cw s v (exV N C h n J Rm lim g j mf r) u m o t) ∈ ro) (H : Cx B0 W S (pMem m bl y rest ++ R) ro) :
    wpC EM (.fn (.func 11) [] []) [.ptr q 0] S fun w S' => w = B true ∧ Cx B0 W S' (pMem m bl y rest ++ R) ro := by
  refine wpC_fn (b := Tryz.a11) rfl rfl ?_
  obtain ⟨hN, hC, hh, hn, hJ, hR, hl2, hP, hM, hg2, hj, hm, hr⟩ := id L
  unfold Tryz.a11 Tryz.a11x30 Tryz.a11x29 Tryz.a11x28 Tryz.a11x27 Tryz.a11x26 Tryz.a11x25 Tryz.a11x24 Tryz.a11x23 Tryz.a11x22 Tryz.a11x21 Tryz.a11x20 Tryz.a11x19 Tryz.a11x18 Tryz.a11x17 Tryz.a11x16 Tryz.a11x15 Tryz.a11x14 Tryz.a11x13 Tryz.a11x12 Tryz.a11x11 Tryz.a11x10 Tryz.a11x9 Tryz.a11x8 Tryz.a11x7 Tryz.a11x6 Tryz.a11x5 Tryz.a11x4 Tryz.a11x3 Tryz.a11x2 Tryz.a11x1 Tryz.a11x0
  refine wp_call (wpC_mono (places_ok L hs hs2 hl hd hrest hq H) fun w S1 qq => ?_)
  obtain ⟨rfl, H⟩ := qq
  try(refine zz ?_;(repeat constructor);intro _)
  refine wp_ldn (o := 22) (n := 5) H hq rfl ?_
  try(refine zz ?_;(repeat constructor);intro _)
  refine wp_ld (o := 36) H hq rfl ?_
  refine wp_call (wpC_mono (jobAll_ok L hl hd.good hrest hd.st H) fun va S2 H => ?_)
  have H := H.toRo (i := 0) rfl
  have H : Cx B0 W S2 (pMem m bl y rest ++ R) (.sl va 3 (frees J) :: ro) := H
  have ma : Fct.sl va 3 (frees J) ∈ (.sl va 3 (frees J) :: ro) := List.Mem.head _
  have hq : Fct.pt q 0 (cw s v (exV N C h n J Rm lim g j mf r) u m o t) ∈ (.sl va 3 (frees J) :: ro) := List.mem_cons_of_mem _ hq
  have hfl : (frees J).length = J := by simp [frees]
  refine wp_notT ?_
  try(refine zz ?_;(repeat constructor);intro _)
  refine wp_len H ma ?_
  rw [hfl]
  try(refine zz ?_;(repeat constructor);intro _)
  refine wp_ld (o := 1) H hq rfl ?_
  rw [hs2]
  refine wp_gop_t (wp_neq_f rfl ?_)
  try(refine zz ?_;(repeat constructor);intro _)
  refine wp_lenNs ?_
  try(refine zz ?_;(repeat constructor);intro _)
  refine wp_ld (o := 42) H hq rfl ?_
  refine wp_gop_t (wp_lenNs ?_)
  refine wp_gop_t (wp_add64 (by omega) (by omega) ?_)
  try(refine zz ?_;(repeat constructor);intro _)
  refine wp_ld (o := 40) H hq rfl ?_
  refine wp_gop_t (wp_lenNs ?_)
  refine wp_gop_t (wp_neq_f (by omega) ?_)
  try(refine zz ?_;(repeat constructor);intro _)
  refine wp_ld (o := 40) H hq rfl ?_
  refine wp_lenNs ?_
  refine wp_mkslice1 (n := 0) H (by omega) (by omega) fun t1 S3 H => ?_
  try(refine zz ?_;(repeat constructor);intro _)
  refine wp_ld (o := 1) H hq rfl ?_
  rw [hs2]
  refine wp_mkslice1 (n := J) H (by omega) (by omega) fun t2 S4 H => ?_
  have H : Cx B0 W S4 (.sl t2 1 (List.replicate J [B false]) :: .sl t1 1 (List.replicate 0 [B false]) :: (pMem m bl y rest ++ R)) (.sl va 3 (frees J) :: ro) := H
  refine wp_bind (wp_loop (wpL_for 0 (fun i2 vs S' => vs = [I 0, B false] ∧ Cx B0 W S' (.sl t2 1 (List.replicate J [B false]) :: .sl t1 1 (List.replicate 0 [B false]) :: (pMem m bl y rest ++ R)) (.sl va 3 (frees J) :: ro)) (fun i vs S hi => absurd hi (by omega)) ?_ ⟨rfl, H⟩))
  rintro vs S13 ⟨rfl, H⟩
  refine wp_lenNs ?_
  refine wp_lss_f (by omega) ?_
  try(refine zz ?_;(repeat constructor);intro _)
  refine wp_ret ⟨by simp, ?_⟩
  show wp EM _ _ _
  refine wp_bind (wp_loop (wpL_for 0 (fun i2 vs S' => vs = [I 0, B false] ∧ Cx B0 W S' (.sl t2 1 (List.replicate J [B false]) :: .sl t1 1 (List.replicate 0 [B false]) :: (pMem m bl y rest ++ R)) (.sl va 3 (frees J) :: ro)) (fun i vs S hi => absurd hi (by omega)) ?_ ⟨rfl, H⟩))
  rintro vs S14 ⟨rfl, H⟩
  try(refine zz ?_;(repeat constructor);intro _)
  refine wp_ld (o := 42) H hq rfl ?_
  refine wp_lenNs ?_
  refine wp_lss_f (by omega) ?_
  try(refine zz ?_;(repeat constructor);intro _)
  refine wp_ret ⟨by simp, ?_⟩
  show wp EM _ _ _
  refine wp_bind (wp_loop (wpL_for J (fun i vs S' => ∃ a, vs = [I (i : Int), a] ∧ Cx B0 W S' (.sl t2 1 (List.replicate J [B false]) :: .sl t1 1 (List.replicate 0 [B false]) :: (pMem m bl y rest ++ R)) (.sl va 3 (frees J) :: ro)) ?_ ?_ ⟨_, rfl, H⟩))
  · rintro i vs S15 hlt ⟨a, rfl, H⟩
    try(refine zz ?_;(repeat constructor);intro _)
    refine wp_ld (o := 1) H hq rfl ?_
    rw [hs2]
    refine wp_lss_t (by omega) ?_
    try(refine zz ?_;(repeat constructor);intro _)
    refine wp_bind ?_
    refine wp_saddro H 0 rfl (i := i) (x := [B false]) (by rw [List.getElem?_replicate]; simp [hlt]) fun id off hp => ?_
    refine wp_loadF0 hp ?_
    refine wp_notF ?_
    try(refine zz ?_;(repeat constructor);intro _)
    refine wp_saddr H ma (i := i) (x := [I 1, I 0, I 1]) (by unfold frees; rw [List.getElem?_replicate]; simp [hlt]) fun id off H1 => ?_
    try(refine zz ?_;(repeat constructor);intro _)
    refine wp_load1 (j := 0) H1 (List.Mem.head _) rfl ?_
    refine wp_gop_t (wp_neq_f (by omega) ?_)
    try(refine zz ?_;(repeat constructor);intro _)
    refine wp_ret ?_
    show wp EM _ _ _
    refine wp_add64 (by omega) (by omega) ?_
    exact wp_ret (.inl ⟨rfl, a, rfl, H⟩)
  · rintro vs S15 ⟨a, rfl, H⟩
    try(refine zz ?_;(repeat constructor);intro _)
    refine wp_ld (o := 1) H hq rfl ?_
    rw [hs2]
    refine wp_lss_f (by omega) ?_
    try(refine zz ?_;(repeat constructor);intro _)
    refine wp_ret ⟨by simp, ?_⟩
    show wp EM _ _ _
    exact wp_ret ⟨rfl, rfl, ((H.dropAt 0).dropAt 0).tl⟩
end
def ksT : List (Option IntKind) := [some .i64, some .i64, some .i64, some .i64]
theorem flatT4 : flatT EM.P 2 75 = some ksT := by kernel_rfl
theorem strT : isStructB EM.P 75 = true := by kernel_rfl
theorem grdT : EM.P.eqGuardType EM.P.depth 75 = false := by kernel_rfl
def tvs (x : Tk) : List Value := [.int .i64 x.kind, .int .i64 x.prio, .int .i64 x.every, .int .i64 x.first]
theorem tks_scs (l : List Tk) : tks l = (l.map tvs).map scs := by
  unfold Tsk.tks
  rw [List.map_map]
  rfl
theorem sameT_ok {S : AH} {v v' : AV} {l : List Tk} (hv : RoSl S v 4 (tks l)) (hv' : RoSl S v' 4 (tks l)) (hl : l.length ≤ 100000) : wpC EM (.fn (.func 9) [] []) [v, v'] S fun r S' => r = B true ∧ Grows S S' := by
  rw [tks_scs] at hv hv'
  exact sameS_ok (t := 75) (d := 2) (ks := ksT) rfl rfl hv hv' (by rw [List.length_map]; omega) rfl rfl flatT4 (by omega) strT grdT (fun vs hvs => by obtain ⟨x, _, rfl⟩ := List.mem_map.1 hvs; rfl)
/-! ### the statement -/
theorem execApart_ok {S : AH} {s : Su} {v : AV} {l : List Tk} (hj0 : -9223372036854775808 ≤ s.jobs) (hv : RoSl S v 4 (tks l)) : wpC EM (.fn (.func 3) [] []) [.agg (s.cs v)] S fun r _ => r = B true := by
  refine wpC_fn (b := Tryz.a3) rfl rfl ?_
  have H := Cx.ro1 hv
  unfold Tryz.a3 Tryz.a3x16 Tryz.a3x15 Tryz.a3x14 Tryz.a3x13 Tryz.a3x12 Tryz.a3x11 Tryz.a3x10 Tryz.a3x9 Tryz.a3x8 Tryz.a3x7 Tryz.a3x6 Tryz.a3x5 Tryz.a3x4 Tryz.a3x3 Tryz.a3x2 Tryz.a3x1 Tryz.a3x0
  refine wp_box H rfl fun p S1 H => ?_
  have H : Cx S [] S1 [] [.pt p 0 (s.cs v), .sl v 4 (tks l)] := H
  refine wp_call (wpC_kn (v := B true) rfl ?_)
  refine wp_ldn (o := 0) (n := 7) H (List.Mem.head _) rfl ?_
  refine wp_callV H (checkE_ok (s := s) (l := l) hj0 (by repeat (first | exact List.Mem.head _ | apply List.Mem.tail)) H) fun S2 H => ?_
  by_cases hc : s.chk l ≠ 0
  · refine wp_neq_t hc ?_
    try(refine zz ?_;(repeat constructor);intro _)
    exact wp_ret ⟨rfl, rfl⟩
  replace hc : s.chk l = 0 := Decidable.not_not.1 hc
  obtain ⟨N, C, h, J, Rm, g, j, mf, r, e1, e2, e3, e4, e5, L, hE, hLN, htc⟩ := lx_of hc
  obtain ⟨hN, hC, hh, hn, hJ, hR, hl2, hP, hM, hg2, hj, hm, hr⟩ := id L
  rw [hc]
  refine wp_neq_f rfl ?_
  try(refine zz ?_;(repeat constructor);intro _)
  refine wp_ldn (o := 0) (n := 7) H (List.Mem.head _) rfl ?_
  refine wp_call (wpC_mono (layout_ok (s := s) (l := l) hj0 (H.roSl (by repeat (first | exact List.Mem.head _ | apply List.Mem.tail)))) fun r' S6 ⟨u, hr', K⟩ => ?_)
  rw [if_pos hc] at K
  rcases hr' with ⟨h0, _⟩ | ⟨_, rfl⟩
  · exact absurd hc h0
  rw [hE, hLN]
  have H := H.joinA K
  have huv := slOk_one (H.rh _ (List.Mem.head _))
  try(refine zz ?_;(repeat constructor);intro _)
  refine wp_tmpN H rfl rfl rfl fun pe S7 H => ?_
  have H : Cx S [] S7 [] [.pt pe 0 ((exV N C h l.length J Rm s.limit g j mf r).cs u), .sl u 4 (tks l), .pt p 0 (s.cs v), .sl v 4 (tks l)] := H
  have mu : Fct.sl u 4 (tks l) ∈ [Fct.pt pe 0 ((exV N C h l.length J Rm s.limit g j mf r).cs u), .sl u 4 (tks l), .pt p 0 (s.cs v), .sl v 4 (tks l)] := by repeat (first | exact List.Mem.head _ | apply List.Mem.tail)
  have me : Fct.pt pe 0 ((exV N C h l.length J Rm s.limit g j mf r).cs u) ∈ [Fct.pt pe 0 ((exV N C h l.length J Rm s.limit g j mf r).cs u), .sl u 4 (tks l), .pt p 0 (s.cs v), .sl v 4 (tks l)] := by repeat (first | exact List.Mem.head _ | apply List.Mem.tail)
  have mp : Fct.pt p 0 (s.cs v) ∈ [Fct.pt pe 0 ((exV N C h l.length J Rm s.limit g j mf r).cs u), .sl u 4 (tks l), .pt p 0 (s.cs v), .sl v 4 (tks l)] := by repeat (first | exact List.Mem.head _ | apply List.Mem.tail)
  have mv : Fct.sl v 4 (tks l) ∈ [Fct.pt pe 0 ((exV N C h l.length J Rm s.limit g j mf r).cs u), .sl u 4 (tks l), .pt p 0 (s.cs v), .sl v 4 (tks l)] := by repeat (first | exact List.Mem.head _ | apply List.Mem.tail)
  generalize [Fct.pt pe 0 ((exV N C h l.length J Rm s.limit g j mf r).cs u), .sl u 4 (tks l), .pt p 0 (s.cs v), .sl v 4 (tks l)] = ro at *
  refine wp_neq_f (by omega) ?_
  try(refine zz ?_;(repeat constructor);intro _)
  refine wp_lss_f (by omega) ?_
  try(refine zz ?_;(repeat constructor);intro _)
  refine wp_gtr_f (by omega) ?_
  try(refine zz ?_;(repeat constructor);intro _)
  refine wp_ldn (o := 0) (n := 29) H me rfl ?_
  try(refine zz ?_;(repeat constructor);intro _)
  refine wp_callV H (soundE_ok (e := exV N C h l.length J Rm s.limit g j mf r) mu H) fun S8 H => ?_
  rw [decide_eq_true (exV_ok L rfl htc)]
  refine wp_gop_t (wp_notT ?_)
  try(refine zz ?_;(repeat constructor);intro _)
  obtain ⟨K1, hK1⟩ : ∃ n : Nat, r + 3 * C + 1 = (n : Int) := ⟨(r + 3 * C + 1).toNat, by omega⟩
  obtain ⟨K2, hK2⟩ : ∃ n : Nat, r + 3 * C + 1 - 1 = (n : Int) := ⟨(r + 3 * C).toNat, by omega⟩
  refine wp_ldn (o := 0) (n := 29) H me rfl ?_
  try(refine zz ?_;(repeat constructor);intro _)
  have f1 := fitsX_ok (K := K1) L rfl htc mu (by omega) (by omega) H
  rw [if_pos hK1.symm, ← hK1] at f1
  refine wp_call (wpC_mono f1 fun w S9 qq => ?_)
  obtain ⟨rfl, H⟩ := qq
  refine wp_gop_t (wp_neq_f (by omega) ?_)
  try(refine zz ?_;(repeat constructor);intro _)
  refine wp_ldn (o := 0) (n := 29) H me rfl ?_
  try(refine zz ?_;(repeat constructor);intro _)
  refine wp_sub64 (by omega) (by omega) ?_
  try(refine zz ?_;(repeat constructor);intro _)
  have f2 := fitsX_ok (K := K2) L rfl htc mu (by omega) (by omega) H
  rw [if_neg (by omega), ← hK2] at f2
  refine wp_call (wpC_mono f2 fun w S10 qq => ?_)
  obtain ⟨rfl, H⟩ := qq
  refine wp_gop_t (wp_neq_f (by omega) ?_)
  try(refine zz ?_;(repeat constructor);intro _)
  refine wp_ld (o := 5) H me rfl ?_
  try(refine zz ?_;(repeat constructor);intro _)
  refine wp_ld (o := 2) H mp rfl ?_
  refine wp_neq_f (by show (N : Int) = s.nodes; omega) ?_
  try(refine zz ?_;(repeat constructor);intro _)
  refine wp_ld (o := 19) H me rfl ?_
  try(refine zz ?_;(repeat constructor);intro _)
  refine wp_ld (o := 1) H mp rfl ?_
  refine wp_gop_t (wp_neq_f (by show (J : Int) = s.jobs; omega) ?_)
  try(refine zz ?_;(repeat constructor);intro _)
  refine wp_ld (o := 21) H me rfl ?_
  try(refine zz ?_;(repeat constructor);intro _)
  refine wp_ld (o := 0) H mp rfl ?_
  refine wp_gop_t (wp_neq_f (by show (C : Int) = s.cores; omega) ?_)
  try(refine zz ?_;(repeat constructor);intro _)
  refine wp_ld (o := 22) H me rfl ?_
  try(refine zz ?_;(repeat constructor);intro _)
  refine wp_ld (o := 4) H mp rfl ?_
  refine wp_gop_t (wp_neq_f (by show (Rm : Int) = s.room; omega) ?_)
  try(refine zz ?_;(repeat constructor);intro _)
  refine wp_ld (o := 2) H me rfl ?_
  try(refine zz ?_;(repeat constructor);intro _)
  refine wp_ld (o := 3) H mp rfl ?_
  refine wp_gop_t (wp_neq_f (by show (h : Int) = s.height; omega) ?_)
  try(refine zz ?_;(repeat constructor);intro _)
  refine wp_ld (o := 8) H me rfl ?_
  try(refine zz ?_;(repeat constructor);intro _)
  refine wp_ld (o := 5) H mp rfl ?_
  refine wp_gop_t (wp_neq_f rfl ?_)
  try(refine zz ?_;(repeat constructor);intro _)
  refine wp_ld (o := 28) H me rfl ?_
  try(refine zz ?_;(repeat constructor);intro _)
  refine wp_ld (o := 6) H mp rfl ?_
  try(refine zz ?_;(repeat constructor);intro _)
  refine wp_callV H (sameT_ok (l := l) (H.roSl mu) (H.roSl mv) (by omega)) fun S11 H => ?_
  refine wp_gop_t (wp_notT ?_)
  try(refine zz ?_;(repeat constructor);intro _)
  refine wp_ldn (o := 0) (n := 7) H mp rfl ?_
  refine wp_call (wpC_mono (begun_ok (N := N) (C := C) (h := h) (J := J) (Rm := Rm) hj0 hc htc e1 L hE hLN mv H) fun w S12 qq => ?_)
  obtain ⟨q, m, bl, y, u2, o, t, rfl, hyl, hd, H⟩ := qq
  have hrest : y.ws.length + (List.replicate (4096 - y.ws.length) (U 0)).length = 4096 := by rw [List.length_replicate]; omega
  have mq : Fct.pt q 0 (cw s v (exV N C h l.length J Rm s.limit g j mf r) u2 m o t) ∈ (.pt q 0 (cw s v (exV N C h l.length J Rm s.limit g j mf r) u2 m o t) :: ro) := List.Mem.head _
  try(refine zz ?_;(repeat constructor);intro _)
  refine wp_op (e_ptrNil (by kernel_rfl)) ?_
  try(refine zz ?_;(repeat constructor);intro _)
  refine wp_call (wpC_mono (lies_ok L e1 e2 hyl hd hrest mq H) fun w S13 qq => ?_)
  obtain ⟨rfl, H⟩ := qq
  try(refine zz ?_;(repeat constructor);intro _)
  refine wp_call (wpC_mono (quiet_ok L e1 hyl hd hrest mq H) fun w S14 qq => ?_)
  obtain ⟨rfl, H⟩ := qq
  try(refine zz ?_;(repeat constructor);intro _)
  refine wp_call (wpC_mono (least_ok L e1 hyl hd hrest mq H) fun w S15 qq => ?_)
  obtain ⟨rfl, H⟩ := qq
  try(refine zz ?_;(repeat constructor);intro _)
  exact wp_ret ⟨rfl, rfl⟩
end Go.Abs
