/- functions of this cut: what they compute, in the abstract machine. Conditions: stated in each theorem -/
import Derived.Test.YtjcfblbdljjhjaaE0
set_option linter.unusedVariables false
set_option linter.unusedSimpArgs false
namespace Go.Abs
open Go.Proofs
set_option maxRecDepth 100000
theorem wrapU {n : Nat} (h : n < 18446744073709551616) : wrapF .u64 (n : Int) = (n : Int) := by
  rw [wrapF_eq]
  show (n : Int) % 18446744073709551616 = n
  omega
section
variable {M : Mach} {S : AH} {Q : Post} {k : AV → AC}
theorem wp_convU {n : Nat} (hn : n < 18446744073709551616) (h : wp M (k (U (n : Int))) S Q) : wp M (.op (.conv .u64 (I (n : Int))) k) S Q := wp_op (v := U (n : Int)) (by
  show pur (some (AV.sc (.int .u64 (wrapF .u64 (n : Int))))) S = _
  rw [wrapU hn]; rfl) h
theorem wp_shlU {κ : IntKind} {n s : Nat} (hs : s ≤ 64) (hn : n * 2 ^ s < 18446744073709551616) (h : wp M (k (U ((n * 2 ^ s : Nat) : Int))) S Q) : wp M (.op (.bin .shl (U (n : Int)) (Z κ (s : Int))) k) S Q := wp_op (v := U ((n * 2 ^ s : Nat) : Int)) (by
  show pur (if ltF (s : Int) 0 then none else some (AV.sc (.int .u64 (wrapF .u64 ((n : Int) * 2 ^ (min (s : Int).toNat IntKind.u64.bits)))))) S = _
  rw [ltF_eq, if_neg (by simp)]
  have e : min (s : Int).toNat IntKind.u64.bits = s := by show min (s : Int).toNat 64 = s; omega
  rw [e]
  have e2 : (n : Int) * 2 ^ s = ((n * 2 ^ s : Nat) : Int) := by simp
  rw [e2, wrapU hn]; rfl) h
theorem wp_orU {a b : Nat} (ha : a < 18446744073709551616) (hb : b < 18446744073709551616) (h : wp M (k (U ((a ||| b : Nat) : Int))) S Q) : wp M (.op (.bin .or (U (a : Int)) (U (b : Int))) k) S Q := wp_op (v := U ((a ||| b : Nat) : Int)) (by
  show pur (bOr (U (a : Int)) (U (b : Int))) S = _
  unfold bOr
  simp only [int2, asInt, vInt, kindEq_refl]
  have e : (BitVec.ofInt IntKind.u64.bits (a : Int) ||| BitVec.ofInt IntKind.u64.bits (b : Int)).toNat = a ||| b := by
    rw [BitVec.toNat_or]
    have x : ∀ n : Nat, n < 18446744073709551616 → (BitVec.ofInt IntKind.u64.bits (n : Int)).toNat = n := by
      intro n hn
      show (BitVec.ofInt 64 (n : Int)).toNat = n
      rw [BitVec.ofInt_natCast, BitVec.toNat_ofNat]
      exact Nat.mod_eq_of_lt hn
    rw [x a ha, x b hb]
  have hor : a ||| b < 18446744073709551616 := Nat.or_lt_two_pow (n := 64) ha hb
  show pur (some (AV.sc (.int .u64 (wrapF .u64 ((BitVec.ofInt IntKind.u64.bits (a : Int) ||| BitVec.ofInt IntKind.u64.bits (b : Int)).toNat : Nat))))) S = _
  rw [e, wrapU hor]; rfl) h
end
theorem or_hi {a b i : Nat} (hb : b < 2 ^ i) : a * 2 ^ i ||| b = a * 2 ^ i + b := by
  have := Nat.shiftLeft_add_eq_or_of_lt hb a
  rw [Nat.shiftLeft_eq] at this
  exact this.symm
theorem or_lo {a b i : Nat} (hb : b < 2 ^ i) : b ||| a * 2 ^ i = a * 2 ^ i + b := by rw [Nat.or_comm]; exact or_hi hb

/-- the word of a key -/
def kword (p s r : Int) : Int := p * 72057594037927936 + s * 65536 + r
def kok (p s r : Int) : Prop := (0 ≤ p ∧ p ≤ 254) ∧ (0 ≤ s ∧ s ≤ 1099511627775) ∧ (0 ≤ r ∧ r ≤ 65535)
instance (p s r : Int) : Decidable (kok p s r) := by unfold kok; infer_instance
def putk (p s r : Int) : AV := if kok p s r then .tup [U (kword p s r), I 0] else .tup [U 0, I 3]

theorem refWithin_ok {S : AH} {n lo hi : Int} : wpC EM (.fn (.func 56) [] []) [I n, I lo, I hi] S fun r S' => r = B (decide (lo ≤ n ∧ n ≤ hi)) ∧ Grows S S' := by
  refine wpC_fn (b := Try.a56) rfl rfl ?_
  have H : Cx S [] S [] [] := Cx.enter (by simp)
  unfold Try.a56
  refine wp_geq (fun h1 => ?_) (fun h1 => ?_)
  · repeat (first | refine wp_gop_t ?_ | refine wp_gop_f rfl ?_ | refine wp_gop_u ?_ | refine wp_gcall_t ?_ | refine wp_gcall_f rfl ?_ | refine wp_gcall_u ?_ | refine wp_ite_t ?_ | refine wp_ite_f ?_ | refine wp_faddr ?_ | refine wp_nilchk ?_ | refine wp_op (o := .mv _) rfl ?_ | refine wp_op (o := .pick _ _ _) rfl ?_ | refine wp_op (o := .extract _ _) rfl ?_)
    refine wp_leq (fun h2 => ?_) (fun h2 => ?_)
    · repeat (first | refine wp_gop_t ?_ | refine wp_gop_f rfl ?_ | refine wp_gop_u ?_ | refine wp_gcall_t ?_ | refine wp_gcall_f rfl ?_ | refine wp_gcall_u ?_ | refine wp_ite_t ?_ | refine wp_ite_f ?_ | refine wp_faddr ?_ | refine wp_nilchk ?_ | refine wp_op (o := .mv _) rfl ?_ | refine wp_op (o := .pick _ _ _) rfl ?_ | refine wp_op (o := .extract _ _) rfl ?_)
      exact wp_ret ⟨rfl, by rw [decide_eq_true ⟨h1, h2⟩]; rfl, H.grows⟩
    · repeat (first | refine wp_gop_t ?_ | refine wp_gop_f rfl ?_ | refine wp_gop_u ?_ | refine wp_gcall_t ?_ | refine wp_gcall_f rfl ?_ | refine wp_gcall_u ?_ | refine wp_ite_t ?_ | refine wp_ite_f ?_ | refine wp_faddr ?_ | refine wp_nilchk ?_ | refine wp_op (o := .mv _) rfl ?_ | refine wp_op (o := .pick _ _ _) rfl ?_ | refine wp_op (o := .extract _ _) rfl ?_)
      exact wp_ret ⟨rfl, by rw [decide_eq_false (by omega)]; rfl, H.grows⟩
  · repeat (first | refine wp_gop_t ?_ | refine wp_gop_f rfl ?_ | refine wp_gop_u ?_ | refine wp_gcall_t ?_ | refine wp_gcall_f rfl ?_ | refine wp_gcall_u ?_ | refine wp_ite_t ?_ | refine wp_ite_f ?_ | refine wp_faddr ?_ | refine wp_nilchk ?_ | refine wp_op (o := .mv _) rfl ?_ | refine wp_op (o := .pick _ _ _) rfl ?_ | refine wp_op (o := .extract _ _) rfl ?_)
    exact wp_ret ⟨rfl, by rw [decide_eq_false (by omega)]; rfl, H.grows⟩
theorem refPutKey_ok {S : AH} {p s r : Int} : wpC EM (.fn (.func 48) [] []) [.agg [I p, I s, I r]] S fun v S' => v = putk p s r ∧ Grows S S' := by
  refine wpC_fn (b := Try.a48) rfl rfl ?_
  have H : Cx S [] S [] [] := Cx.enter (by simp)
  unfold Try.a48 putk
  refine wp_box H rfl fun b S1 H => ?_
  replace H : Cx S [] S1 [] [.pt b 0 [I p, I s, I r]] := H
  repeat (first | refine wp_gop_t ?_ | refine wp_gop_f rfl ?_ | refine wp_gop_u ?_ | refine wp_gcall_t ?_ | refine wp_gcall_f rfl ?_ | refine wp_gcall_u ?_ | refine wp_ite_t ?_ | refine wp_ite_f ?_ | refine wp_faddr ?_ | refine wp_nilchk ?_ | refine wp_op (o := .mv _) rfl ?_ | refine wp_op (o := .pick _ _ _) rfl ?_ | refine wp_op (o := .extract _ _) rfl ?_)
  refine wp_load1 H (cs := [I p, I s, I r]) (by repeat (first | exact List.Mem.head _ | apply List.Mem.tail)) rfl ?_
  refine wp_callV H refWithin_ok fun S2 H => ?_
  refine wp_not ?_
  by_cases h1 : 0 ≤ p ∧ p ≤ 254
  · rw [decide_eq_true h1]
    repeat (first | refine wp_gop_t ?_ | refine wp_gop_f rfl ?_ | refine wp_gop_u ?_ | refine wp_gcall_t ?_ | refine wp_gcall_f rfl ?_ | refine wp_gcall_u ?_ | refine wp_ite_t ?_ | refine wp_ite_f ?_ | refine wp_faddr ?_ | refine wp_nilchk ?_ | refine wp_op (o := .mv _) rfl ?_ | refine wp_op (o := .pick _ _ _) rfl ?_ | refine wp_op (o := .extract _ _) rfl ?_)
    refine wp_load1 H (cs := [I p, I s, I r]) (by repeat (first | exact List.Mem.head _ | apply List.Mem.tail)) rfl ?_
    repeat (first | refine wp_gop_t ?_ | refine wp_gop_f rfl ?_ | refine wp_gop_u ?_ | refine wp_gcall_t ?_ | refine wp_gcall_f rfl ?_ | refine wp_gcall_u ?_ | refine wp_ite_t ?_ | refine wp_ite_f ?_ | refine wp_faddr ?_ | refine wp_nilchk ?_ | refine wp_op (o := .mv _) rfl ?_ | refine wp_op (o := .pick _ _ _) rfl ?_ | refine wp_op (o := .extract _ _) rfl ?_)
    refine wp_callV H refWithin_ok fun S3 H => ?_
    repeat (first | refine wp_gop_t ?_ | refine wp_gop_f rfl ?_ | refine wp_gop_u ?_ | refine wp_gcall_t ?_ | refine wp_gcall_f rfl ?_ | refine wp_gcall_u ?_ | refine wp_ite_t ?_ | refine wp_ite_f ?_ | refine wp_faddr ?_ | refine wp_nilchk ?_ | refine wp_op (o := .mv _) rfl ?_ | refine wp_op (o := .pick _ _ _) rfl ?_ | refine wp_op (o := .extract _ _) rfl ?_)
    refine wp_not ?_
    by_cases h2 : 0 ≤ s ∧ s ≤ 1099511627775
    · rw [decide_eq_true h2]
      repeat (first | refine wp_gop_t ?_ | refine wp_gop_f rfl ?_ | refine wp_gop_u ?_ | refine wp_gcall_t ?_ | refine wp_gcall_f rfl ?_ | refine wp_gcall_u ?_ | refine wp_ite_t ?_ | refine wp_ite_f ?_ | refine wp_faddr ?_ | refine wp_nilchk ?_ | refine wp_op (o := .mv _) rfl ?_ | refine wp_op (o := .pick _ _ _) rfl ?_ | refine wp_op (o := .extract _ _) rfl ?_)
      refine wp_load1 H (cs := [I p, I s, I r]) (by repeat (first | exact List.Mem.head _ | apply List.Mem.tail)) rfl ?_
      repeat (first | refine wp_gop_t ?_ | refine wp_gop_f rfl ?_ | refine wp_gop_u ?_ | refine wp_gcall_t ?_ | refine wp_gcall_f rfl ?_ | refine wp_gcall_u ?_ | refine wp_ite_t ?_ | refine wp_ite_f ?_ | refine wp_faddr ?_ | refine wp_nilchk ?_ | refine wp_op (o := .mv _) rfl ?_ | refine wp_op (o := .pick _ _ _) rfl ?_ | refine wp_op (o := .extract _ _) rfl ?_)
      refine wp_callV H refWithin_ok fun S4 H => ?_
      repeat (first | refine wp_gop_t ?_ | refine wp_gop_f rfl ?_ | refine wp_gop_u ?_ | refine wp_gcall_t ?_ | refine wp_gcall_f rfl ?_ | refine wp_gcall_u ?_ | refine wp_ite_t ?_ | refine wp_ite_f ?_ | refine wp_faddr ?_ | refine wp_nilchk ?_ | refine wp_op (o := .mv _) rfl ?_ | refine wp_op (o := .pick _ _ _) rfl ?_ | refine wp_op (o := .extract _ _) rfl ?_)
      refine wp_not ?_
      by_cases h3 : 0 ≤ r ∧ r ≤ 65535
      · rw [decide_eq_true h3, if_pos ⟨h1, h2, h3⟩]
        obtain ⟨p', rfl⟩ : ∃ n : Nat, p = n := ⟨p.toNat, by omega⟩
        obtain ⟨s', rfl⟩ : ∃ n : Nat, s = n := ⟨s.toNat, by omega⟩
        obtain ⟨r', rfl⟩ : ∃ n : Nat, r = n := ⟨r.toNat, by omega⟩
        repeat (first | refine wp_gop_t ?_ | refine wp_gop_f rfl ?_ | refine wp_gop_u ?_ | refine wp_gcall_t ?_ | refine wp_gcall_f rfl ?_ | refine wp_gcall_u ?_ | refine wp_ite_t ?_ | refine wp_ite_f ?_ | refine wp_faddr ?_ | refine wp_nilchk ?_ | refine wp_op (o := .mv _) rfl ?_ | refine wp_op (o := .pick _ _ _) rfl ?_ | refine wp_op (o := .extract _ _) rfl ?_)
        refine wp_load1 H (cs := [I (p' : Int), I (s' : Int), I (r' : Int)]) (by repeat (first | exact List.Mem.head _ | apply List.Mem.tail)) rfl ?_
        refine wp_convU (by omega) ?_
        refine wp_shlU (s := 56) (by omega) (by omega) ?_
        repeat (first | refine wp_gop_t ?_ | refine wp_gop_f rfl ?_ | refine wp_gop_u ?_ | refine wp_gcall_t ?_ | refine wp_gcall_f rfl ?_ | refine wp_gcall_u ?_ | refine wp_ite_t ?_ | refine wp_ite_f ?_ | refine wp_faddr ?_ | refine wp_nilchk ?_ | refine wp_op (o := .mv _) rfl ?_ | refine wp_op (o := .pick _ _ _) rfl ?_ | refine wp_op (o := .extract _ _) rfl ?_)
        refine wp_load1 H (cs := [I (p' : Int), I (s' : Int), I (r' : Int)]) (by repeat (first | exact List.Mem.head _ | apply List.Mem.tail)) rfl ?_
        refine wp_convU (by omega) ?_
        refine wp_shlU (s := 16) (by omega) (by omega) ?_
        refine wp_orU (by omega) (by omega) ?_
        rw [or_hi (by omega)]
        repeat (first | refine wp_gop_t ?_ | refine wp_gop_f rfl ?_ | refine wp_gop_u ?_ | refine wp_gcall_t ?_ | refine wp_gcall_f rfl ?_ | refine wp_gcall_u ?_ | refine wp_ite_t ?_ | refine wp_ite_f ?_ | refine wp_faddr ?_ | refine wp_nilchk ?_ | refine wp_op (o := .mv _) rfl ?_ | refine wp_op (o := .pick _ _ _) rfl ?_ | refine wp_op (o := .extract _ _) rfl ?_)
        refine wp_load1 H (cs := [I (p' : Int), I (s' : Int), I (r' : Int)]) (by repeat (first | exact List.Mem.head _ | apply List.Mem.tail)) rfl ?_
        refine wp_convU (by omega) ?_
        refine wp_orU (by omega) (by omega) ?_
        have e : p' * 2 ^ 56 + s' * 2 ^ 16 = (p' * 2 ^ 40 + s') * 2 ^ 16 := by omega
        rw [e, or_hi (by omega)]
        refine wp_ret ⟨rfl, ?_, H.grows⟩
        have e2 : (((p' * 2 ^ 40 + s') * 2 ^ 16 + r' : Nat) : Int) = kword (p' : Int) (s' : Int) (r' : Int) := by unfold kword; omega
        rw [e2]; rfl
      · rw [decide_eq_false h3, if_neg (fun h => h3 h.2.2)]
        repeat (first | refine wp_gop_t ?_ | refine wp_gop_f rfl ?_ | refine wp_gop_u ?_ | refine wp_gcall_t ?_ | refine wp_gcall_f rfl ?_ | refine wp_gcall_u ?_ | refine wp_ite_t ?_ | refine wp_ite_f ?_ | refine wp_faddr ?_ | refine wp_nilchk ?_ | refine wp_op (o := .mv _) rfl ?_ | refine wp_op (o := .pick _ _ _) rfl ?_ | refine wp_op (o := .extract _ _) rfl ?_)
        exact wp_ret ⟨rfl, rfl, H.grows⟩
    · rw [decide_eq_false h2, if_neg (fun h => h2 h.2.1)]
      repeat (first | refine wp_gop_t ?_ | refine wp_gop_f rfl ?_ | refine wp_gop_u ?_ | refine wp_gcall_t ?_ | refine wp_gcall_f rfl ?_ | refine wp_gcall_u ?_ | refine wp_ite_t ?_ | refine wp_ite_f ?_ | refine wp_faddr ?_ | refine wp_nilchk ?_ | refine wp_op (o := .mv _) rfl ?_ | refine wp_op (o := .pick _ _ _) rfl ?_ | refine wp_op (o := .extract _ _) rfl ?_)
      exact wp_ret ⟨rfl, rfl, H.grows⟩
  · rw [decide_eq_false h1, if_neg (fun h => h1 h.1)]
    repeat (first | refine wp_gop_t ?_ | refine wp_gop_f rfl ?_ | refine wp_gop_u ?_ | refine wp_gcall_t ?_ | refine wp_gcall_f rfl ?_ | refine wp_gcall_u ?_ | refine wp_ite_t ?_ | refine wp_ite_f ?_ | refine wp_faddr ?_ | refine wp_nilchk ?_ | refine wp_op (o := .mv _) rfl ?_ | refine wp_op (o := .pick _ _ _) rfl ?_ | refine wp_op (o := .extract _ _) rfl ?_)
    exact wp_ret ⟨rfl, rfl, H.grows⟩
end Go.Abs
namespace Go.Abs
open Go.Proofs
set_option maxRecDepth 100000
def inP (t : Int × Int × Int) : Prop := t.2.1 ≤ t.1 ∧ t.1 ≤ t.2.2
instance (t : Int × Int × Int) : Decidable (inP t) := by unfold inP; infer_instance
def prs (l : List (Int × Int × Int)) : List (List AV) := l.map fun t => [I t.1, I t.2.1, I t.2.2]
theorem prs_len (l : List (Int × Int × Int)) : (prs l).length = l.length := List.length_map ..
theorem prs_get {l : List (Int × Int × Int)} {i : Nat} (hi : i < l.length) : (prs l)[i]? = some [I l[i].1, I l[i].2.1, I l[i].2.2] := by simp [prs, hi]
theorem within_ok {S : AH} {v : AV} {l : List (Int × Int × Int)} (hv : RoSl S v 3 (prs l)) (hl : l.length < 1000) : wpC EM (.fn (.func 53) [] []) [v] S fun r S' => r = B (decide (∀ t ∈ l, inP t)) ∧ Grows S S' := by
  refine wpC_fn (b := Try.a53) rfl rfl ?_
  have H := Cx.ro1 hv
  unfold Try.a53
  refine wp_len H (by repeat (first | exact List.Mem.head _ | apply List.Mem.tail)) ?_
  rw [prs_len]
  refine wp_bind (wp_loop (wpL_for l.length (fun i vs S1 => ∃ u : AV, vs = [I (i : Int), u] ∧ (∀ t ∈ l.take i, inP t) ∧ Cx S [] S1 [] [.sl v 3 (prs l)]) ?_ ?_ ⟨_, rfl, by simp, H⟩))
  · rintro i vs S1 hlt ⟨u, rfl, hpre, H⟩
    refine wp_lss_t (by omega) ?_
    repeat (first | refine wp_gop_t ?_ | refine wp_gop_f rfl ?_ | refine wp_gop_u ?_ | refine wp_gcall_t ?_ | refine wp_gcall_f rfl ?_ | refine wp_gcall_u ?_ | refine wp_ite_t ?_ | refine wp_ite_f ?_ | refine wp_faddr ?_ | refine wp_nilchk ?_ | refine wp_op (o := .mv _) rfl ?_ | refine wp_op (o := .pick _ _ _) rfl ?_ | refine wp_op (o := .extract _ _) rfl ?_)
    refine wp_bind ?_
    refine wp_saddr (i := i) H (by repeat (first | exact List.Mem.head _ | apply List.Mem.tail)) (prs_get hlt) fun p off H => ?_
    refine wp_loada H (cs := [I l[i].1, I l[i].2.1, I l[i].2.2]) (by repeat (first | exact List.Mem.head _ | apply List.Mem.tail)) (Nat.le_of_ble_eq_true rfl) ?_
    refine wp_alloc H fun b S3 H => ?_
    refine wp_store H 0 rfl rfl rfl (Nat.le_of_ble_eq_true rfl) fun S4 H => ?_
    replace H : Cx S [] S4 [] [.pt b 0 [I l[i].1, I l[i].2.1, I l[i].2.2], .pt p off [I l[i].1, I l[i].2.1, I l[i].2.2], .sl v 3 (prs l)] := H.freeze (i := 0) (c := [I l[i].1, I l[i].2.1, I l[i].2.2]) rfl
    repeat (first | refine wp_gop_t ?_ | refine wp_gop_f rfl ?_ | refine wp_gop_u ?_ | refine wp_gcall_t ?_ | refine wp_gcall_f rfl ?_ | refine wp_gcall_u ?_ | refine wp_ite_t ?_ | refine wp_ite_f ?_ | refine wp_faddr ?_ | refine wp_nilchk ?_ | refine wp_op (o := .mv _) rfl ?_ | refine wp_op (o := .pick _ _ _) rfl ?_ | refine wp_op (o := .extract _ _) rfl ?_)
    refine wp_load1 H (cs := [I l[i].1, I l[i].2.1, I l[i].2.2]) (by repeat (first | exact List.Mem.head _ | apply List.Mem.tail)) rfl ?_
    repeat (first | refine wp_gop_t ?_ | refine wp_gop_f rfl ?_ | refine wp_gop_u ?_ | refine wp_gcall_t ?_ | refine wp_gcall_f rfl ?_ | refine wp_gcall_u ?_ | refine wp_ite_t ?_ | refine wp_ite_f ?_ | refine wp_faddr ?_ | refine wp_nilchk ?_ | refine wp_op (o := .mv _) rfl ?_ | refine wp_op (o := .pick _ _ _) rfl ?_ | refine wp_op (o := .extract _ _) rfl ?_)
    refine wp_load1 H (cs := [I l[i].1, I l[i].2.1, I l[i].2.2]) (by repeat (first | exact List.Mem.head _ | apply List.Mem.tail)) rfl ?_
    refine wp_lss (fun h1 => ?_) (fun h1 => ?_)
    · repeat (first | refine wp_gop_t ?_ | refine wp_gop_f rfl ?_ | refine wp_gop_u ?_ | refine wp_gcall_t ?_ | refine wp_gcall_f rfl ?_ | refine wp_gcall_u ?_ | refine wp_ite_t ?_ | refine wp_ite_f ?_ | refine wp_faddr ?_ | refine wp_nilchk ?_ | refine wp_op (o := .mv _) rfl ?_ | refine wp_op (o := .pick _ _ _) rfl ?_ | refine wp_op (o := .extract _ _) rfl ?_)
      refine wp_ret (.inr ⟨by simp, rfl, ?_, H.grows⟩)
      rw [decide_eq_false (fun h => by have := (h l[i] (List.getElem_mem hlt)).1; omega)]; rfl
    · repeat (first | refine wp_gop_t ?_ | refine wp_gop_f rfl ?_ | refine wp_gop_u ?_ | refine wp_gcall_t ?_ | refine wp_gcall_f rfl ?_ | refine wp_gcall_u ?_ | refine wp_ite_t ?_ | refine wp_ite_f ?_ | refine wp_faddr ?_ | refine wp_nilchk ?_ | refine wp_op (o := .mv _) rfl ?_ | refine wp_op (o := .pick _ _ _) rfl ?_ | refine wp_op (o := .extract _ _) rfl ?_)
      refine wp_load1 H (cs := [I l[i].1, I l[i].2.1, I l[i].2.2]) (by repeat (first | exact List.Mem.head _ | apply List.Mem.tail)) rfl ?_
      repeat (first | refine wp_gop_t ?_ | refine wp_gop_f rfl ?_ | refine wp_gop_u ?_ | refine wp_gcall_t ?_ | refine wp_gcall_f rfl ?_ | refine wp_gcall_u ?_ | refine wp_ite_t ?_ | refine wp_ite_f ?_ | refine wp_faddr ?_ | refine wp_nilchk ?_ | refine wp_op (o := .mv _) rfl ?_ | refine wp_op (o := .pick _ _ _) rfl ?_ | refine wp_op (o := .extract _ _) rfl ?_)
      refine wp_load1 H (cs := [I l[i].1, I l[i].2.1, I l[i].2.2]) (by repeat (first | exact List.Mem.head _ | apply List.Mem.tail)) rfl ?_
      repeat (first | refine wp_gop_t ?_ | refine wp_gop_f rfl ?_ | refine wp_gop_u ?_ | refine wp_gcall_t ?_ | refine wp_gcall_f rfl ?_ | refine wp_gcall_u ?_ | refine wp_ite_t ?_ | refine wp_ite_f ?_ | refine wp_faddr ?_ | refine wp_nilchk ?_ | refine wp_op (o := .mv _) rfl ?_ | refine wp_op (o := .pick _ _ _) rfl ?_ | refine wp_op (o := .extract _ _) rfl ?_)
      refine wp_gtr (fun h2 => ?_) (fun h2 => ?_)
      · repeat (first | refine wp_gop_t ?_ | refine wp_gop_f rfl ?_ | refine wp_gop_u ?_ | refine wp_gcall_t ?_ | refine wp_gcall_f rfl ?_ | refine wp_gcall_u ?_ | refine wp_ite_t ?_ | refine wp_ite_f ?_ | refine wp_faddr ?_ | refine wp_nilchk ?_ | refine wp_op (o := .mv _) rfl ?_ | refine wp_op (o := .pick _ _ _) rfl ?_ | refine wp_op (o := .extract _ _) rfl ?_)
        refine wp_ret (.inr ⟨by simp, rfl, ?_, H.grows⟩)
        rw [decide_eq_false (fun h => by have := (h l[i] (List.getElem_mem hlt)).2; omega)]; rfl
      · repeat (first | refine wp_gop_t ?_ | refine wp_gop_f rfl ?_ | refine wp_gop_u ?_ | refine wp_gcall_t ?_ | refine wp_gcall_f rfl ?_ | refine wp_gcall_u ?_ | refine wp_ite_t ?_ | refine wp_ite_f ?_ | refine wp_faddr ?_ | refine wp_nilchk ?_ | refine wp_op (o := .mv _) rfl ?_ | refine wp_op (o := .pick _ _ _) rfl ?_ | refine wp_op (o := .extract _ _) rfl ?_)
        refine wp_ret ?_
        show wp EM _ _ _
        refine wp_add64 (by omega) (by omega) (wp_ret (.inl ⟨rfl, _, rfl, fun t ht => ?_, H.tl.tl⟩))
        rw [List.take_succ_eq_append_getElem hlt, List.mem_append, List.mem_singleton] at ht
        rcases ht with ht | rfl
        · exact hpre t ht
        · exact ⟨h1, h2⟩
  · rintro vs S1 ⟨u, rfl, hpre, H⟩
    refine wp_lss_f (by omega) ?_
    repeat (first | refine wp_gop_t ?_ | refine wp_gop_f rfl ?_ | refine wp_gop_u ?_ | refine wp_gcall_t ?_ | refine wp_gcall_f rfl ?_ | refine wp_gcall_u ?_ | refine wp_ite_t ?_ | refine wp_ite_f ?_ | refine wp_faddr ?_ | refine wp_nilchk ?_ | refine wp_op (o := .mv _) rfl ?_ | refine wp_op (o := .pick _ _ _) rfl ?_ | refine wp_op (o := .extract _ _) rfl ?_)
    refine wp_ret ⟨by simp, wp_ret ⟨rfl, ?_, H.grows⟩⟩
    rw [List.take_length] at hpre
    rw [decide_eq_true hpre]; rfl
def keyTab : List AV := [I 0, I 16, I 16, I 40, I 56, I 8]
theorem keys_ok {S : AH} : wpC EM (.fn (.func 54) [] []) [] S fun r S' => r = .agg keyTab ∧ Grows S S' := by
  refine wpC_fn (b := Try.a54) rfl rfl ?_
  have H : Cx S [] S [] [] := Cx.enter (by simp)
  unfold Try.a54
  refine wp_fin ?_
  refine wp_alloc H fun b S1 H => ?_
  refine wp_op (v := .agg [I 0, I 16]) rfl ?_
  refine wp_op (v := .agg [I 16, I 40]) rfl ?_
  refine wp_op (v := .agg [I 56, I 8]) rfl ?_
  refine wp_op (v := .agg keyTab) rfl ?_
  refine wp_store (v := .agg keyTab) H 0 rfl rfl rfl (Nat.le_of_ble_eq_true rfl) fun S2 H => ?_
  refine wp_ret ⟨.inr rfl, ?_⟩
  refine wp_loadoa (n := 6) H 0 rfl (Nat.le_of_ble_eq_true rfl) ?_
  exact wp_ret ⟨rfl, rfl, H.grows⟩
theorem with_ok {S : AH} {w n s m : Nat} (hw : w < 18446744073709551616) (hn : n * 2 ^ s < 18446744073709551616) (hs : s ≤ 64) (hn0 : n < 18446744073709551616) : wpC EM (.fn (.func 58) [] []) [U (w : Int), .agg [I (s : Int), I (m : Int)], I (n : Int)] S fun r S' => r = U ((w ||| n * 2 ^ s : Nat) : Int) ∧ Grows S S' := by
  refine wpC_fn (b := Try.a58) rfl rfl ?_
  have H : Cx S [] S [] [] := Cx.enter (by simp)
  unfold Try.a58
  refine wp_box H rfl fun b S1 H => ?_
  replace H : Cx S [] S1 [] [.pt b 0 [I (s : Int), I (m : Int)]] := H
  refine wp_convU hn0 ?_
  repeat (first | refine wp_gop_t ?_ | refine wp_gop_f rfl ?_ | refine wp_gop_u ?_ | refine wp_gcall_t ?_ | refine wp_gcall_f rfl ?_ | refine wp_gcall_u ?_ | refine wp_ite_t ?_ | refine wp_ite_f ?_ | refine wp_faddr ?_ | refine wp_nilchk ?_ | refine wp_op (o := .mv _) rfl ?_ | refine wp_op (o := .pick _ _ _) rfl ?_ | refine wp_op (o := .extract _ _) rfl ?_)
  refine wp_load1 H (cs := [I (s : Int), I (m : Int)]) (by repeat (first | exact List.Mem.head _ | apply List.Mem.tail)) rfl ?_
  refine wp_shlU hs hn ?_
  refine wp_orU hw hn ?_
  exact wp_ret ⟨rfl, rfl, H.grows⟩
theorem lay_ok {S : AH} {v v' : AV} {r s p : Nat} (hv : RoSl S v 2 [[I 0, I 16], [I 16, I 40], [I 56, I 8]]) (hv' : RoSl S v' 1 [[I (r : Int)], [I (s : Int)], [I (p : Int)]]) (hr : r < 65536) (hs : s < 1099511627776) (hp : p < 256) :
    wpC EM (.fn (.func 55) [] []) [v, v'] S fun x S' => x = U (kword p s r) ∧ Grows S S' := by
  refine wpC_fn (b := Try.a55) rfl rfl ?_
  have H := Cx.ro2 hv hv'
  unfold Try.a55
  refine wp_len (v := v) (es := 2) (L := [[I 0, I 16], [I 16, I 40], [I 56, I 8]]) H (by repeat (first | exact List.Mem.head _ | apply List.Mem.tail)) ?_
  refine wp_bind (wp_loop (wpL_for 3 (fun i vs S1 => vs = [I (i : Int), U (((if i = 0 then 0 else if i = 1 then r else if i = 2 then s * 65536 + r else p * 72057594037927936 + s * 65536 + r) : Nat) : Int)] ∧ Cx S [] S1 [] [.sl v 2 [[I 0, I 16], [I 16, I 40], [I 56, I 8]], .sl v' 1 [[I (r : Int)], [I (s : Int)], [I (p : Int)]]]) ?_ ?_ ⟨rfl, H⟩))
  · rintro i vs S1 hlt ⟨rfl, H⟩
    refine wp_lss_t (by show (i : Int) < 3; omega) ?_
    repeat (first | refine wp_gop_t ?_ | refine wp_gop_f rfl ?_ | refine wp_gop_u ?_ | refine wp_gcall_t ?_ | refine wp_gcall_f rfl ?_ | refine wp_gcall_u ?_ | refine wp_ite_t ?_ | refine wp_ite_f ?_ | refine wp_faddr ?_ | refine wp_nilchk ?_ | refine wp_op (o := .mv _) rfl ?_ | refine wp_op (o := .pick _ _ _) rfl ?_ | refine wp_op (o := .extract _ _) rfl ?_)
    refine wp_bind ?_
    have hcase : i = 0 ∨ i = 1 ∨ i = 2 := by omega
    rcases hcase with rfl | rfl | rfl
    · refine wp_saddr (v := v) (L := [[I 0, I 16], [I 16, I 40], [I 56, I 8]]) (i := 0) (x := [I 0, I 16]) H (by repeat (first | exact List.Mem.head _ | apply List.Mem.tail)) rfl fun q off H => ?_
      refine wp_loada H (cs := [I 0, I 16]) (by repeat (first | exact List.Mem.head _ | apply List.Mem.tail)) (Nat.le_of_ble_eq_true rfl) ?_
      refine wp_alloc H fun b S3 H => ?_
      refine wp_store H 0 rfl rfl rfl (Nat.le_of_ble_eq_true rfl) fun S4 H => ?_
      replace H := H.freeze (i := 0) (c := [I 0, I 16]) rfl
      refine wp_loada H (cs := [I 0, I 16]) (by repeat (first | exact List.Mem.head _ | apply List.Mem.tail)) (Nat.le_of_ble_eq_true rfl) ?_
      refine wp_saddr (v := v') (L := [[I (r : Int)], [I (s : Int)], [I (p : Int)]]) (i := 0) (x := [I (r : Int)]) H (by repeat (first | exact List.Mem.head _ | apply List.Mem.tail)) rfl fun q' off' H => ?_
      refine wp_load0 H (cs := [I (r : Int)]) (by repeat (first | exact List.Mem.head _ | apply List.Mem.tail)) rfl ?_
      refine wp_callV H (with_ok (w := 0) (n := r) (s := 0) (m := 16) (by omega) (by omega) (by omega) (by omega)) fun S5 H => ?_
      refine wp_ret ?_
      show wp EM _ _ _
      refine wp_add64 (by omega) (by omega) (wp_ret (.inl ⟨rfl, ?_, H.dropRo (by simp)⟩))
      have e : 0 ||| r * 2 ^ 0 = r := by simp
      rw [e]; rfl
    · refine wp_saddr (v := v) (L := [[I 0, I 16], [I 16, I 40], [I 56, I 8]]) (i := 1) (x := [I 16, I 40]) H (by repeat (first | exact List.Mem.head _ | apply List.Mem.tail)) rfl fun q off H => ?_
      refine wp_loada H (cs := [I 16, I 40]) (by repeat (first | exact List.Mem.head _ | apply List.Mem.tail)) (Nat.le_of_ble_eq_true rfl) ?_
      refine wp_alloc H fun b S3 H => ?_
      refine wp_store H 0 rfl rfl rfl (Nat.le_of_ble_eq_true rfl) fun S4 H => ?_
      replace H := H.freeze (i := 0) (c := [I 16, I 40]) rfl
      refine wp_loada H (cs := [I 16, I 40]) (by repeat (first | exact List.Mem.head _ | apply List.Mem.tail)) (Nat.le_of_ble_eq_true rfl) ?_
      refine wp_saddr (v := v') (L := [[I (r : Int)], [I (s : Int)], [I (p : Int)]]) (i := 1) (x := [I (s : Int)]) H (by repeat (first | exact List.Mem.head _ | apply List.Mem.tail)) rfl fun q' off' H => ?_
      refine wp_load0 H (cs := [I (s : Int)]) (by repeat (first | exact List.Mem.head _ | apply List.Mem.tail)) rfl ?_
      refine wp_callV H (with_ok (w := r) (n := s) (s := 16) (m := 40) (by omega) (by omega) (by omega) (by omega)) fun S5 H => ?_
      refine wp_ret ?_
      show wp EM _ _ _
      refine wp_add64 (by omega) (by omega) (wp_ret (.inl ⟨rfl, ?_, H.dropRo (by simp)⟩))
      rw [or_lo (by omega)]; rfl
    · refine wp_saddr (v := v) (L := [[I 0, I 16], [I 16, I 40], [I 56, I 8]]) (i := 2) (x := [I 56, I 8]) H (by repeat (first | exact List.Mem.head _ | apply List.Mem.tail)) rfl fun q off H => ?_
      refine wp_loada H (cs := [I 56, I 8]) (by repeat (first | exact List.Mem.head _ | apply List.Mem.tail)) (Nat.le_of_ble_eq_true rfl) ?_
      refine wp_alloc H fun b S3 H => ?_
      refine wp_store H 0 rfl rfl rfl (Nat.le_of_ble_eq_true rfl) fun S4 H => ?_
      replace H := H.freeze (i := 0) (c := [I 56, I 8]) rfl
      refine wp_loada H (cs := [I 56, I 8]) (by repeat (first | exact List.Mem.head _ | apply List.Mem.tail)) (Nat.le_of_ble_eq_true rfl) ?_
      refine wp_saddr (v := v') (L := [[I (r : Int)], [I (s : Int)], [I (p : Int)]]) (i := 2) (x := [I (p : Int)]) H (by repeat (first | exact List.Mem.head _ | apply List.Mem.tail)) rfl fun q' off' H => ?_
      refine wp_load0 H (cs := [I (p : Int)]) (by repeat (first | exact List.Mem.head _ | apply List.Mem.tail)) rfl ?_
      refine wp_callV H (with_ok (w := s * 65536 + r) (n := p) (s := 56) (m := 8) (by omega) (by omega) (by omega) (by omega)) fun S5 H => ?_
      refine wp_ret ?_
      show wp EM _ _ _
      refine wp_add64 (by omega) (by omega) (wp_ret (.inl ⟨rfl, ?_, H.dropRo (by simp)⟩))
      rw [or_lo (by omega)]
      have e : p * 2 ^ 56 + (s * 65536 + r) = p * 72057594037927936 + s * 65536 + r := by omega
      rw [e]; rfl
  · rintro vs S1 ⟨rfl, H⟩
    refine wp_lss_f (by show (3 : Int) ≤ ((3 : Nat) : Int); omega) ?_
    repeat (first | refine wp_gop_t ?_ | refine wp_gop_f rfl ?_ | refine wp_gop_u ?_ | refine wp_gcall_t ?_ | refine wp_gcall_f rfl ?_ | refine wp_gcall_u ?_ | refine wp_ite_t ?_ | refine wp_ite_f ?_ | refine wp_faddr ?_ | refine wp_nilchk ?_ | refine wp_op (o := .mv _) rfl ?_ | refine wp_op (o := .pick _ _ _) rfl ?_ | refine wp_op (o := .extract _ _) rfl ?_)
    refine wp_ret ⟨by simp, wp_ret ⟨rfl, ?_, H.grows⟩⟩
    have e : ((p * 72057594037927936 + s * 65536 + r : Nat) : Int) = kword (p : Int) (s : Int) (r : Int) := by unfold kword; omega
    show U (((p * 72057594037927936 + s * 65536 + r : Nat) : Int)) = _
    rw [e]
end Go.Abs
namespace Go.Abs
open Go.Proofs
set_option maxRecDepth 100000
theorem putKey_ok {S : AH} {p s r : Int} : wpC EM (.fn (.func 47) [] []) [.agg [I p, I s, I r]] S fun v S' => v = putk p s r ∧ Grows S S' := by
  refine wpC_fn (b := Try.a47) rfl rfl ?_
  have H : Cx S [] S [] [] := Cx.enter (by simp)
  unfold Try.a47 putk
  refine wp_box H rfl fun b S1 H => ?_
  replace H : Cx S [] S1 [] [.pt b 0 [I p, I s, I r]] := H
  repeat (first | refine wp_gop_t ?_ | refine wp_gop_f rfl ?_ | refine wp_gop_u ?_ | refine wp_gcall_t ?_ | refine wp_gcall_f rfl ?_ | refine wp_gcall_u ?_ | refine wp_ite_t ?_ | refine wp_ite_f ?_ | refine wp_faddr ?_ | refine wp_nilchk ?_ | refine wp_op (o := .mv _) rfl ?_ | refine wp_op (o := .pick _ _ _) rfl ?_ | refine wp_op (o := .extract _ _) rfl ?_)
  refine wp_load1 H (cs := [I p, I s, I r]) (by repeat (first | exact List.Mem.head _ | apply List.Mem.tail)) rfl ?_
  refine wp_op (v := .agg [I r, I 0, I 65535]) rfl ?_
  repeat (first | refine wp_gop_t ?_ | refine wp_gop_f rfl ?_ | refine wp_gop_u ?_ | refine wp_gcall_t ?_ | refine wp_gcall_f rfl ?_ | refine wp_gcall_u ?_ | refine wp_ite_t ?_ | refine wp_ite_f ?_ | refine wp_faddr ?_ | refine wp_nilchk ?_ | refine wp_op (o := .mv _) rfl ?_ | refine wp_op (o := .pick _ _ _) rfl ?_ | refine wp_op (o := .extract _ _) rfl ?_)
  refine wp_load1 H (cs := [I p, I s, I r]) (by repeat (first | exact List.Mem.head _ | apply List.Mem.tail)) rfl ?_
  refine wp_op (v := .agg [I s, I 0, I 1099511627775]) rfl ?_
  repeat (first | refine wp_gop_t ?_ | refine wp_gop_f rfl ?_ | refine wp_gop_u ?_ | refine wp_gcall_t ?_ | refine wp_gcall_f rfl ?_ | refine wp_gcall_u ?_ | refine wp_ite_t ?_ | refine wp_ite_f ?_ | refine wp_faddr ?_ | refine wp_nilchk ?_ | refine wp_op (o := .mv _) rfl ?_ | refine wp_op (o := .pick _ _ _) rfl ?_ | refine wp_op (o := .extract _ _) rfl ?_)
  refine wp_load1 H (cs := [I p, I s, I r]) (by repeat (first | exact List.Mem.head _ | apply List.Mem.tail)) rfl ?_
  refine wp_op (v := .agg [I p, I 0, I 254]) rfl ?_
  refine wp_op (v := .sl S1.next 0 3 3) (S1 := S1.new (.row [I r, I 0, I 65535, I s, I 0, I 1099511627775, I p, I 0, I 254])) rfl ?_
  replace H : Cx S [] _ [] [.sl (.sl S1.next 0 3 3) 3 (prs [(r, 0, 65535), (s, 0, 1099511627775), (p, 0, 254)]), .pt b 0 [I p, I s, I r]] := H.addNewRo (Grows.new S1 _) (.inr ⟨S1.next, 0, [I r, I 0, I 65535, I s, I 0, I 1099511627775, I p, I 0, I 254], .inl ⟨3, Nat.le_refl _, Nat.le_refl _, rfl⟩, row_cells (get_new_same _ _), rfl, by simp [prs]⟩) (by
    intro j hj
    simp only [Fct.ids, vids, List.mem_singleton] at hj
    subst hj
    simp)
  generalize S1.new (.row [I r, I 0, I 65535, I s, I 0, I 1099511627775, I p, I 0, I 254]) = S2 at H ⊢
  generalize AV.sl S1.next 0 3 3 = w at H ⊢
  refine wp_callV H (within_ok (H.roSl (by repeat (first | exact List.Mem.head _ | apply List.Mem.tail))) (by simp)) fun S3 H => ?_
  refine wp_not ?_
  have hiff : (∀ t ∈ [(r, (0 : Int), (65535 : Int)), (s, 0, 1099511627775), (p, 0, 254)], inP t) ↔ kok p s r := by
    unfold kok inP
    simp
    constructor
    · rintro ⟨h1, h2, h3⟩; exact ⟨h3, h2, h1⟩
    · rintro ⟨h1, h2, h3⟩; exact ⟨h3, h2, h1⟩
  by_cases hk : kok p s r
  · rw [decide_eq_true (hiff.2 hk), if_pos hk]
    have hk' := hk
    obtain ⟨h1, h2, h3⟩ := hk'
    obtain ⟨p', rfl⟩ : ∃ n : Nat, p = n := ⟨p.toNat, by omega⟩
    obtain ⟨s', rfl⟩ : ∃ n : Nat, s = n := ⟨s.toNat, by omega⟩
    obtain ⟨r', rfl⟩ : ∃ n : Nat, r = n := ⟨r.toNat, by omega⟩
    repeat (first | refine wp_gop_t ?_ | refine wp_gop_f rfl ?_ | refine wp_gop_u ?_ | refine wp_gcall_t ?_ | refine wp_gcall_f rfl ?_ | refine wp_gcall_u ?_ | refine wp_ite_t ?_ | refine wp_ite_f ?_ | refine wp_faddr ?_ | refine wp_nilchk ?_ | refine wp_op (o := .mv _) rfl ?_ | refine wp_op (o := .pick _ _ _) rfl ?_ | refine wp_op (o := .extract _ _) rfl ?_)
    refine wp_callV H keys_ok fun S4 H => ?_
    refine wp_alloc H fun o S5 H => ?_
    refine wp_store (v := .agg keyTab) H 0 rfl rfl rfl (Nat.le_of_ble_eq_true rfl) fun S6 H => ?_
    have hob : S6.get o = some (.row keyTab) := H.oh _ (List.Mem.head _)
    replace H := H.freeze (i := 0) (c := keyTab) rfl
    refine wp_op (v := .sl o 0 3 3) rfl ?_
    have hpt := (H.ri (.pt o 0 keyTab) (List.Mem.head _))
    replace H := H.addRo (φ := .sl (.sl o 0 3 3) 2 [[I 0, I 16], [I 16, I 40], [I 56, I 8]]) (.inr ⟨o, 0, keyTab, .inl ⟨3, Nat.le_refl _, Nat.le_refl _, rfl⟩, row_cells hob, rfl, by simp⟩) (fun id hid => hpt id hid)
    repeat (first | refine wp_gop_t ?_ | refine wp_gop_f rfl ?_ | refine wp_gop_u ?_ | refine wp_gcall_t ?_ | refine wp_gcall_f rfl ?_ | refine wp_gcall_u ?_ | refine wp_ite_t ?_ | refine wp_ite_f ?_ | refine wp_faddr ?_ | refine wp_nilchk ?_ | refine wp_op (o := .mv _) rfl ?_ | refine wp_op (o := .pick _ _ _) rfl ?_ | refine wp_op (o := .extract _ _) rfl ?_)
    refine wp_load1 H (cs := [I (p' : Int), I (s' : Int), I (r' : Int)]) (by repeat (first | exact List.Mem.head _ | apply List.Mem.tail)) rfl ?_
    repeat (first | refine wp_gop_t ?_ | refine wp_gop_f rfl ?_ | refine wp_gop_u ?_ | refine wp_gcall_t ?_ | refine wp_gcall_f rfl ?_ | refine wp_gcall_u ?_ | refine wp_ite_t ?_ | refine wp_ite_f ?_ | refine wp_faddr ?_ | refine wp_nilchk ?_ | refine wp_op (o := .mv _) rfl ?_ | refine wp_op (o := .pick _ _ _) rfl ?_ | refine wp_op (o := .extract _ _) rfl ?_)
    refine wp_load1 H (cs := [I (p' : Int), I (s' : Int), I (r' : Int)]) (by repeat (first | exact List.Mem.head _ | apply List.Mem.tail)) rfl ?_
    repeat (first | refine wp_gop_t ?_ | refine wp_gop_f rfl ?_ | refine wp_gop_u ?_ | refine wp_gcall_t ?_ | refine wp_gcall_f rfl ?_ | refine wp_gcall_u ?_ | refine wp_ite_t ?_ | refine wp_ite_f ?_ | refine wp_faddr ?_ | refine wp_nilchk ?_ | refine wp_op (o := .mv _) rfl ?_ | refine wp_op (o := .pick _ _ _) rfl ?_ | refine wp_op (o := .extract _ _) rfl ?_)
    refine wp_load1 H (cs := [I (p' : Int), I (s' : Int), I (r' : Int)]) (by repeat (first | exact List.Mem.head _ | apply List.Mem.tail)) rfl ?_
    refine wp_op (v := .sl S6.next 0 3 3) (S1 := S6.new (.row [I (r' : Int), I (s' : Int), I (p' : Int)])) rfl ?_
    replace H := H.addNewRo (φ := .sl (.sl S6.next 0 3 3) 1 [[I (r' : Int)], [I (s' : Int)], [I (p' : Int)]]) (Grows.new S6 (.row [I (r' : Int), I (s' : Int), I (p' : Int)])) (.inr ⟨S6.next, 0, [I (r' : Int), I (s' : Int), I (p' : Int)], .inl ⟨3, Nat.le_refl _, Nat.le_refl _, rfl⟩, row_cells (get_new_same _ _), rfl, by simp⟩) (by
      intro j hj
      simp only [Fct.ids, vids, List.mem_singleton] at hj
      subst hj
      simp)
    refine wp_callV H (lay_ok (r := r') (s := s') (p := p') (H.roSl (by repeat (first | exact List.Mem.head _ | apply List.Mem.tail))) (H.roSl (by repeat (first | exact List.Mem.head _ | apply List.Mem.tail))) (by omega) (by omega) (by omega)) fun S7 H => ?_
    exact wp_ret ⟨rfl, rfl, H.grows⟩
  · rw [decide_eq_false (fun h => hk (hiff.1 h)), if_neg hk]
    repeat (first | refine wp_gop_t ?_ | refine wp_gop_f rfl ?_ | refine wp_gop_u ?_ | refine wp_gcall_t ?_ | refine wp_gcall_f rfl ?_ | refine wp_gcall_u ?_ | refine wp_ite_t ?_ | refine wp_ite_f ?_ | refine wp_faddr ?_ | refine wp_nilchk ?_ | refine wp_op (o := .mv _) rfl ?_ | refine wp_op (o := .pick _ _ _) rfl ?_ | refine wp_op (o := .extract _ _) rfl ?_)
    exact wp_ret ⟨rfl, rfl, H.grows⟩
/-- a job's key -/
def tkey (l : List Tk) (t s r : Int) : AV := if tchk l ≠ 0 then .tup [U 0, I (tchk l)] else match (if t < 0 then none else l[t.toNat]?) with
  | some x => putk x.prio s r
  | none => .tup [U 0, I 10]
theorem putk_form (p s r : Int) : ∃ w e, putk p s r = .tup [U w, I e] := by unfold putk; split <;> exact ⟨_, _, rfl⟩
theorem key_ok {S : AH} {v : AV} {l : List Tk} {t s r : Int} (hv : RoSl S v 4 (tks l)) : wpC EM (.fn (.func 27) [] []) [v, I t, I s, I r] S fun x S' => x = tkey l t s r ∧ Grows S S' := by
  refine wpC_fn (b := Try.a27) rfl rfl ?_
  have H := Cx.ro1 hv
  unfold Try.a27 tkey
  refine wp_callV H (check_ok (H.roSl (by repeat (first | exact List.Mem.head _ | apply List.Mem.tail)))) fun S1 H => ?_
  refine wp_neq (fun hne => ?_) (fun he => ?_)
  · rw [if_pos hne]
    repeat (first | refine wp_gop_t ?_ | refine wp_gop_f rfl ?_ | refine wp_gop_u ?_ | refine wp_gcall_t ?_ | refine wp_gcall_f rfl ?_ | refine wp_gcall_u ?_ | refine wp_ite_t ?_ | refine wp_ite_f ?_ | refine wp_faddr ?_ | refine wp_nilchk ?_ | refine wp_op (o := .mv _) rfl ?_ | refine wp_op (o := .pick _ _ _) rfl ?_ | refine wp_op (o := .extract _ _) rfl ?_)
    exact wp_ret ⟨rfl, rfl, H.grows⟩
  rw [if_neg (by simpa using he)]
  repeat (first | refine wp_gop_t ?_ | refine wp_gop_f rfl ?_ | refine wp_gop_u ?_ | refine wp_gcall_t ?_ | refine wp_gcall_f rfl ?_ | refine wp_gcall_u ?_ | refine wp_ite_t ?_ | refine wp_ite_f ?_ | refine wp_faddr ?_ | refine wp_nilchk ?_ | refine wp_op (o := .mv _) rfl ?_ | refine wp_op (o := .pick _ _ _) rfl ?_ | refine wp_op (o := .extract _ _) rfl ?_)
  refine wp_lss (fun h1 => ?_) (fun h1 => ?_)
  · rw [if_pos h1]
    repeat (first | refine wp_gop_t ?_ | refine wp_gop_f rfl ?_ | refine wp_gop_u ?_ | refine wp_gcall_t ?_ | refine wp_gcall_f rfl ?_ | refine wp_gcall_u ?_ | refine wp_ite_t ?_ | refine wp_ite_f ?_ | refine wp_faddr ?_ | refine wp_nilchk ?_ | refine wp_op (o := .mv _) rfl ?_ | refine wp_op (o := .pick _ _ _) rfl ?_ | refine wp_op (o := .extract _ _) rfl ?_)
    exact wp_ret ⟨rfl, rfl, H.grows⟩
  rw [if_neg (by omega)]
  repeat (first | refine wp_gop_t ?_ | refine wp_gop_f rfl ?_ | refine wp_gop_u ?_ | refine wp_gcall_t ?_ | refine wp_gcall_f rfl ?_ | refine wp_gcall_u ?_ | refine wp_ite_t ?_ | refine wp_ite_f ?_ | refine wp_faddr ?_ | refine wp_nilchk ?_ | refine wp_op (o := .mv _) rfl ?_ | refine wp_op (o := .pick _ _ _) rfl ?_ | refine wp_op (o := .extract _ _) rfl ?_)
  refine wp_len H (by repeat (first | exact List.Mem.head _ | apply List.Mem.tail)) ?_
  rw [tks_len]
  repeat (first | refine wp_gop_t ?_ | refine wp_gop_f rfl ?_ | refine wp_gop_u ?_ | refine wp_gcall_t ?_ | refine wp_gcall_f rfl ?_ | refine wp_gcall_u ?_ | refine wp_ite_t ?_ | refine wp_ite_f ?_ | refine wp_faddr ?_ | refine wp_nilchk ?_ | refine wp_op (o := .mv _) rfl ?_ | refine wp_op (o := .pick _ _ _) rfl ?_ | refine wp_op (o := .extract _ _) rfl ?_)
  refine wp_geq (fun h2 => ?_) (fun h2 => ?_)
  · rw [List.getElem?_eq_none (by omega)]
    repeat (first | refine wp_gop_t ?_ | refine wp_gop_f rfl ?_ | refine wp_gop_u ?_ | refine wp_gcall_t ?_ | refine wp_gcall_f rfl ?_ | refine wp_gcall_u ?_ | refine wp_ite_t ?_ | refine wp_ite_f ?_ | refine wp_faddr ?_ | refine wp_nilchk ?_ | refine wp_op (o := .mv _) rfl ?_ | refine wp_op (o := .pick _ _ _) rfl ?_ | refine wp_op (o := .extract _ _) rfl ?_)
    exact wp_ret ⟨rfl, rfl, H.grows⟩
  obtain ⟨i, rfl⟩ : ∃ n : Nat, t = n := ⟨t.toNat, by omega⟩
  have hlt : i < l.length := by omega
  rw [show ((i : Int)).toNat = i from rfl, List.getElem?_eq_getElem hlt]
  repeat (first | refine wp_gop_t ?_ | refine wp_gop_f rfl ?_ | refine wp_gop_u ?_ | refine wp_gcall_t ?_ | refine wp_gcall_f rfl ?_ | refine wp_gcall_u ?_ | refine wp_ite_t ?_ | refine wp_ite_f ?_ | refine wp_faddr ?_ | refine wp_nilchk ?_ | refine wp_op (o := .mv _) rfl ?_ | refine wp_op (o := .pick _ _ _) rfl ?_ | refine wp_op (o := .extract _ _) rfl ?_)
  refine wp_saddr (i := i) H (by repeat (first | exact List.Mem.head _ | apply List.Mem.tail)) (tks_get hlt) fun p off H => ?_
  repeat (first | refine wp_gop_t ?_ | refine wp_gop_f rfl ?_ | refine wp_gop_u ?_ | refine wp_gcall_t ?_ | refine wp_gcall_f rfl ?_ | refine wp_gcall_u ?_ | refine wp_ite_t ?_ | refine wp_ite_f ?_ | refine wp_faddr ?_ | refine wp_nilchk ?_ | refine wp_op (o := .mv _) rfl ?_ | refine wp_op (o := .pick _ _ _) rfl ?_ | refine wp_op (o := .extract _ _) rfl ?_)
  refine wp_load1 H (cs := l[i].cs) (by repeat (first | exact List.Mem.head _ | apply List.Mem.tail)) rfl ?_
  refine wp_op (v := .agg [I l[i].prio, I s, I r]) rfl ?_
  refine wp_callV H putKey_ok fun S2 H => ?_
  obtain ⟨w, e, he⟩ := putk_form l[i].prio s r
  simp only [he]
  repeat (first | refine wp_gop_t ?_ | refine wp_gop_f rfl ?_ | refine wp_gop_u ?_ | refine wp_gcall_t ?_ | refine wp_gcall_f rfl ?_ | refine wp_gcall_u ?_ | refine wp_ite_t ?_ | refine wp_ite_f ?_ | refine wp_faddr ?_ | refine wp_nilchk ?_ | refine wp_op (o := .mv _) rfl ?_ | refine wp_op (o := .pick _ _ _) rfl ?_ | refine wp_op (o := .extract _ _) rfl ?_)
  exact wp_ret ⟨rfl, rfl, H.grows⟩
theorem refKey_ok {S : AH} {v : AV} {l : List Tk} {t s r : Int} (hv : RoSl S v 4 (tks l)) : wpC EM (.fn (.func 28) [] []) [v, I t, I s, I r] S fun x S' => x = tkey l t s r ∧ Grows S S' := by
  refine wpC_fn (b := Try.a28) rfl rfl ?_
  have H := Cx.ro1 hv
  unfold Try.a28 tkey
  refine wp_callV H (refCheck_ok (H.roSl (by repeat (first | exact List.Mem.head _ | apply List.Mem.tail)))) fun S1 H => ?_
  refine wp_neq (fun hne => ?_) (fun he => ?_)
  · rw [if_pos hne]
    repeat (first | refine wp_gop_t ?_ | refine wp_gop_f rfl ?_ | refine wp_gop_u ?_ | refine wp_gcall_t ?_ | refine wp_gcall_f rfl ?_ | refine wp_gcall_u ?_ | refine wp_ite_t ?_ | refine wp_ite_f ?_ | refine wp_faddr ?_ | refine wp_nilchk ?_ | refine wp_op (o := .mv _) rfl ?_ | refine wp_op (o := .pick _ _ _) rfl ?_ | refine wp_op (o := .extract _ _) rfl ?_)
    exact wp_ret ⟨rfl, rfl, H.grows⟩
  rw [if_neg (by simpa using he)]
  repeat (first | refine wp_gop_t ?_ | refine wp_gop_f rfl ?_ | refine wp_gop_u ?_ | refine wp_gcall_t ?_ | refine wp_gcall_f rfl ?_ | refine wp_gcall_u ?_ | refine wp_ite_t ?_ | refine wp_ite_f ?_ | refine wp_faddr ?_ | refine wp_nilchk ?_ | refine wp_op (o := .mv _) rfl ?_ | refine wp_op (o := .pick _ _ _) rfl ?_ | refine wp_op (o := .extract _ _) rfl ?_)
  refine wp_lss (fun h1 => ?_) (fun h1 => ?_)
  · rw [if_pos h1]
    repeat (first | refine wp_gop_t ?_ | refine wp_gop_f rfl ?_ | refine wp_gop_u ?_ | refine wp_gcall_t ?_ | refine wp_gcall_f rfl ?_ | refine wp_gcall_u ?_ | refine wp_ite_t ?_ | refine wp_ite_f ?_ | refine wp_faddr ?_ | refine wp_nilchk ?_ | refine wp_op (o := .mv _) rfl ?_ | refine wp_op (o := .pick _ _ _) rfl ?_ | refine wp_op (o := .extract _ _) rfl ?_)
    exact wp_ret ⟨rfl, rfl, H.grows⟩
  rw [if_neg (by omega)]
  repeat (first | refine wp_gop_t ?_ | refine wp_gop_f rfl ?_ | refine wp_gop_u ?_ | refine wp_gcall_t ?_ | refine wp_gcall_f rfl ?_ | refine wp_gcall_u ?_ | refine wp_ite_t ?_ | refine wp_ite_f ?_ | refine wp_faddr ?_ | refine wp_nilchk ?_ | refine wp_op (o := .mv _) rfl ?_ | refine wp_op (o := .pick _ _ _) rfl ?_ | refine wp_op (o := .extract _ _) rfl ?_)
  refine wp_len H (by repeat (first | exact List.Mem.head _ | apply List.Mem.tail)) ?_
  rw [tks_len]
  repeat (first | refine wp_gop_t ?_ | refine wp_gop_f rfl ?_ | refine wp_gop_u ?_ | refine wp_gcall_t ?_ | refine wp_gcall_f rfl ?_ | refine wp_gcall_u ?_ | refine wp_ite_t ?_ | refine wp_ite_f ?_ | refine wp_faddr ?_ | refine wp_nilchk ?_ | refine wp_op (o := .mv _) rfl ?_ | refine wp_op (o := .pick _ _ _) rfl ?_ | refine wp_op (o := .extract _ _) rfl ?_)
  refine wp_geq (fun h2 => ?_) (fun h2 => ?_)
  · rw [List.getElem?_eq_none (by omega)]
    repeat (first | refine wp_gop_t ?_ | refine wp_gop_f rfl ?_ | refine wp_gop_u ?_ | refine wp_gcall_t ?_ | refine wp_gcall_f rfl ?_ | refine wp_gcall_u ?_ | refine wp_ite_t ?_ | refine wp_ite_f ?_ | refine wp_faddr ?_ | refine wp_nilchk ?_ | refine wp_op (o := .mv _) rfl ?_ | refine wp_op (o := .pick _ _ _) rfl ?_ | refine wp_op (o := .extract _ _) rfl ?_)
    exact wp_ret ⟨rfl, rfl, H.grows⟩
  obtain ⟨i, rfl⟩ : ∃ n : Nat, t = n := ⟨t.toNat, by omega⟩
  have hlt : i < l.length := by omega
  rw [show ((i : Int)).toNat = i from rfl, List.getElem?_eq_getElem hlt]
  repeat (first | refine wp_gop_t ?_ | refine wp_gop_f rfl ?_ | refine wp_gop_u ?_ | refine wp_gcall_t ?_ | refine wp_gcall_f rfl ?_ | refine wp_gcall_u ?_ | refine wp_ite_t ?_ | refine wp_ite_f ?_ | refine wp_faddr ?_ | refine wp_nilchk ?_ | refine wp_op (o := .mv _) rfl ?_ | refine wp_op (o := .pick _ _ _) rfl ?_ | refine wp_op (o := .extract _ _) rfl ?_)
  refine wp_saddr (i := i) H (by repeat (first | exact List.Mem.head _ | apply List.Mem.tail)) (tks_get hlt) fun p off H => ?_
  repeat (first | refine wp_gop_t ?_ | refine wp_gop_f rfl ?_ | refine wp_gop_u ?_ | refine wp_gcall_t ?_ | refine wp_gcall_f rfl ?_ | refine wp_gcall_u ?_ | refine wp_ite_t ?_ | refine wp_ite_f ?_ | refine wp_faddr ?_ | refine wp_nilchk ?_ | refine wp_op (o := .mv _) rfl ?_ | refine wp_op (o := .pick _ _ _) rfl ?_ | refine wp_op (o := .extract _ _) rfl ?_)
  refine wp_load1 H (cs := l[i].cs) (by repeat (first | exact List.Mem.head _ | apply List.Mem.tail)) rfl ?_
  refine wp_op (v := .agg [I l[i].prio, I s, I r]) rfl ?_
  refine wp_callV H refPutKey_ok fun S2 H => ?_
  obtain ⟨w, e, he⟩ := putk_form l[i].prio s r
  simp only [he]
  repeat (first | refine wp_gop_t ?_ | refine wp_gop_f rfl ?_ | refine wp_gop_u ?_ | refine wp_gcall_t ?_ | refine wp_gcall_f rfl ?_ | refine wp_gcall_u ?_ | refine wp_ite_t ?_ | refine wp_ite_f ?_ | refine wp_faddr ?_ | refine wp_nilchk ?_ | refine wp_op (o := .mv _) rfl ?_ | refine wp_op (o := .pick _ _ _) rfl ?_ | refine wp_op (o := .extract _ _) rfl ?_)
  exact wp_ret ⟨rfl, rfl, H.grows⟩
end Go.Abs
namespace Go.Abs
open Go.Proofs
set_option maxRecDepth 100000
def cmpI (a b : Int) : Int := if a < b then -1 else if b < a then 1 else 0
theorem nan_ok {S : AH} {a : Int} : wpC EM (.fn (.func 57) [] []) [I a] S fun r S' => r = B false ∧ Grows S S' := by
  refine wpC_fn (b := Try.a57) rfl rfl ?_
  unfold Try.a57
  refine wp_neq_f rfl ?_
  exact wp_ret ⟨rfl, rfl, Grows.refl _⟩
theorem compare_ok {S : AH} {a b : Int} : wpC EM (.fn (.func 51) [] []) [I a, I b] S fun r S' => r = I (cmpI a b) ∧ Grows S S' := by
  refine wpC_fn (b := Try.a51) rfl rfl ?_
  have H : Cx S [] S [] [] := Cx.enter (by simp)
  unfold Try.a51 cmpI
  refine wp_callV H nan_ok fun S1 H => ?_
  refine wp_callV H nan_ok fun S2 H => ?_
  repeat (first | refine wp_gop_t ?_ | refine wp_gop_f rfl ?_ | refine wp_gop_u ?_ | refine wp_gcall_t ?_ | refine wp_gcall_f rfl ?_ | refine wp_gcall_u ?_ | refine wp_ite_t ?_ | refine wp_ite_f ?_ | refine wp_faddr ?_ | refine wp_nilchk ?_ | refine wp_op (o := .mv _) rfl ?_ | refine wp_op (o := .pick _ _ _) rfl ?_ | refine wp_op (o := .extract _ _) rfl ?_)
  refine wp_lss (fun h => ?_) (fun h => ?_)
  · rw [if_pos h]
    repeat (first | refine wp_gop_t ?_ | refine wp_gop_f rfl ?_ | refine wp_gop_u ?_ | refine wp_gcall_t ?_ | refine wp_gcall_f rfl ?_ | refine wp_gcall_u ?_ | refine wp_ite_t ?_ | refine wp_ite_f ?_ | refine wp_faddr ?_ | refine wp_nilchk ?_ | refine wp_op (o := .mv _) rfl ?_ | refine wp_op (o := .pick _ _ _) rfl ?_ | refine wp_op (o := .extract _ _) rfl ?_)
    exact wp_ret ⟨rfl, rfl, H.grows⟩
  rw [if_neg (by omega)]
  repeat (first | refine wp_gop_t ?_ | refine wp_gop_f rfl ?_ | refine wp_gop_u ?_ | refine wp_gcall_t ?_ | refine wp_gcall_f rfl ?_ | refine wp_gcall_u ?_ | refine wp_ite_t ?_ | refine wp_ite_f ?_ | refine wp_faddr ?_ | refine wp_nilchk ?_ | refine wp_op (o := .mv _) rfl ?_ | refine wp_op (o := .pick _ _ _) rfl ?_ | refine wp_op (o := .extract _ _) rfl ?_)
  refine wp_gtr (fun h2 => ?_) (fun h2 => ?_)
  · rw [if_pos h2]
    repeat (first | refine wp_gop_t ?_ | refine wp_gop_f rfl ?_ | refine wp_gop_u ?_ | refine wp_gcall_t ?_ | refine wp_gcall_f rfl ?_ | refine wp_gcall_u ?_ | refine wp_ite_t ?_ | refine wp_ite_f ?_ | refine wp_faddr ?_ | refine wp_nilchk ?_ | refine wp_op (o := .mv _) rfl ?_ | refine wp_op (o := .pick _ _ _) rfl ?_ | refine wp_op (o := .extract _ _) rfl ?_)
    exact wp_ret ⟨rfl, rfl, H.grows⟩
  · rw [if_neg (by omega)]
    repeat (first | refine wp_gop_t ?_ | refine wp_gop_f rfl ?_ | refine wp_gop_u ?_ | refine wp_gcall_t ?_ | refine wp_gcall_f rfl ?_ | refine wp_gcall_u ?_ | refine wp_ite_t ?_ | refine wp_ite_f ?_ | refine wp_faddr ?_ | refine wp_nilchk ?_ | refine wp_op (o := .mv _) rfl ?_ | refine wp_op (o := .pick _ _ _) rfl ?_ | refine wp_op (o := .extract _ _) rfl ?_)
    exact wp_ret ⟨rfl, rfl, H.grows⟩
theorem byPrio_ok {S : AH} {v : AV} {l : List Tk} {b i j : Nat} (hi : i < l.length) (hj : j < l.length) {B0 : AH} {W : List Nat} {own : List Own} {ro : List Fct} (H0 : Cx B0 W S own ro) (h1 : Fct.pt b 0 [v] ∈ ro) (h2 : Fct.sl v 4 (tks l) ∈ ro) :
    wpC EM (.fn (.func 50) [] [.ptr b 0]) [I (i : Int), I (j : Int)] S fun r S' => r = I (cmpI l[i].prio l[j].prio) ∧ Grows S S' := by
  refine wpC_fn (b := Try.a50) rfl rfl ?_
  have H : Cx S [] S [] [.pt b 0 [v], .sl v 4 (tks l)] := Cx.enter fun φ hφ => by
    simp only [List.mem_cons, List.not_mem_nil, or_false] at hφ
    rcases hφ with rfl | rfl
    · exact ⟨H0.rh _ h1, fun id hid => (H0.ri _ h1 id hid).1⟩
    · exact ⟨H0.rh _ h2, fun id hid => (H0.ri _ h2 id hid).1⟩
  unfold Try.a50
  refine wp_load0 H (cs := [v]) (by repeat (first | exact List.Mem.head _ | apply List.Mem.tail)) rfl ?_
  refine wp_saddr (v := v) (L := tks l) (i := i) H (by repeat (first | exact List.Mem.head _ | apply List.Mem.tail)) (tks_get hi) fun p off H => ?_
  repeat (first | refine wp_gop_t ?_ | refine wp_gop_f rfl ?_ | refine wp_gop_u ?_ | refine wp_gcall_t ?_ | refine wp_gcall_f rfl ?_ | refine wp_gcall_u ?_ | refine wp_ite_t ?_ | refine wp_ite_f ?_ | refine wp_faddr ?_ | refine wp_nilchk ?_ | refine wp_op (o := .mv _) rfl ?_ | refine wp_op (o := .pick _ _ _) rfl ?_ | refine wp_op (o := .extract _ _) rfl ?_)
  refine wp_load1 H (cs := l[i].cs) (by repeat (first | exact List.Mem.head _ | apply List.Mem.tail)) rfl ?_
  refine wp_load0 (id := b) (off := 0) H (cs := [v]) (by repeat (first | exact List.Mem.head _ | apply List.Mem.tail)) rfl ?_
  refine wp_saddr (v := v) (L := tks l) (i := j) H (by repeat (first | exact List.Mem.head _ | apply List.Mem.tail)) (tks_get hj) fun q qo H => ?_
  repeat (first | refine wp_gop_t ?_ | refine wp_gop_f rfl ?_ | refine wp_gop_u ?_ | refine wp_gcall_t ?_ | refine wp_gcall_f rfl ?_ | refine wp_gcall_u ?_ | refine wp_ite_t ?_ | refine wp_ite_f ?_ | refine wp_faddr ?_ | refine wp_nilchk ?_ | refine wp_op (o := .mv _) rfl ?_ | refine wp_op (o := .pick _ _ _) rfl ?_ | refine wp_op (o := .extract _ _) rfl ?_)
  refine wp_load1 (id := q) (off := qo) H (cs := l[j].cs) (by repeat (first | exact List.Mem.head _ | apply List.Mem.tail)) rfl ?_
  refine wp_callV H compare_ok fun S2 H => ?_
  exact wp_ret ⟨rfl, rfl, H.grows⟩
def nints (L : List Nat) : List (List AV) := L.map fun (i : Nat) => [I (i : Int)]
theorem nints_len (L : List Nat) : (nints L).length = L.length := List.length_map ..
theorem nints_get {P : List Nat} {y : Nat} {R : List Nat} : (nints (P ++ y :: R))[P.length]? = some [I (y : Int)] := by simp [nints]
theorem swap_l {α : Type} : ∀ (P : List α) (y x : α) (R : List α), ((P ++ y :: x :: R).set P.length x).set (P.length + 1) y = P ++ x :: y :: R
  | [], _, _, _ => rfl
  | a :: P, y, x, R => by simp [swap_l P y x R]
def prio (l : List Tk) (i : Nat) : Int := match l[i]? with
  | some x => x.prio
  | none => -1
theorem prio_get {l : List Tk} {i : Nat} (h : i < l.length) : prio l i = l[i].prio := by unfold prio; rw [List.getElem?_eq_getElem h]
theorem insert_ok {S : AH} {v u : AV} {l : List Tk} {b x : Nat} {out : List Nat} (hout : ∀ y ∈ out, y < l.length) (hx : x < l.length) (hlen : out.length < 1000) {B0 : AH} {W : List Nat} {ro : List Fct} (H : Cx B0 W S [.sl u 1 (nints out)] ro) (h1 : Fct.pt b 0 [v] ∈ ro) (h2 : Fct.sl v 4 (tks l) ∈ ro) :
    wpC EM (.fn (.func 49) [] []) [u, I (x : Int), .fn (.func 50) [] [.ptr b 0]] S fun r S' => ∃ pre suf, out = pre ++ suf ∧ (∀ s ∈ suf, prio l x < prio l s) ∧ (∀ P y, pre = P ++ [y] → prio l y ≤ prio l x) ∧ Cx B0 W S' [.sl r 1 (nints (pre ++ x :: suf))] ro := by
  refine wpC_fn (b := Try.a49) rfl rfl ?_
  unfold Try.a49
  refine wp_push (x := I (x : Int)) H 0 rfl rfl rfl rfl (by rw [nints_len]; unfold maxBytes; omega) (by rw [nints_len]; unfold maxLenN; omega) fun u1 S1 H => ?_
  have e0 : nints out ++ [(I (x : Int)).cells] = nints (out ++ [x]) := by simp [nints, AV.cells]
  replace H : Cx B0 W S1 [.sl u1 1 (nints (out ++ [x]))] ro := by
    have H' : Cx B0 W S1 [.sl u1 1 (nints out ++ [(I (x : Int)).cells])] ro := H
    rw [e0] at H'
    exact H'
  refine wp_leno H 0 rfl ?_
  rw [nints_len, List.length_append]
  refine wp_sub (c := (out.length : Int)) (by rw [wrap64 (by simp <;> omega) (by simp <;> omega)]; try simp) ?_
  refine wp_bind (wp_loop (wpL_inv (fun m vs S2 => ∃ pre suf : List Nat, m = pre.length ∧ vs = [I (pre.length : Int)] ∧ out = pre ++ suf ∧ (∀ s ∈ suf, prio l x < prio l s) ∧ Cx B0 W S2 [.sl u1 1 (nints (pre ++ x :: suf))] ro) ?_ out.length ⟨out, [], rfl, rfl, by simp, by simp, H⟩))
  rintro m vs S2 ⟨pre, suf, rfl, rfl, hos, hsuf, H⟩
  have hpl : pre.length ≤ out.length := by rw [hos, List.length_append]; omega
  refine wp_gtr (fun hp => ?_) (fun hp => ?_)
  · obtain ⟨P, y, rfl⟩ : ∃ P y, pre = P ++ [y] := by
      rcases List.eq_nil_or_concat pre with h | ⟨P, y, h⟩
      · subst h; simp at hp
      · exact ⟨P, y, by simpa using h⟩
    have hyl : y < l.length := hout y (by rw [hos]; simp)
    have ePl : (P ++ [y]).length = P.length + 1 := by simp
    have eL : P ++ [y] ++ x :: suf = P ++ y :: x :: suf := by simp
    rw [eL] at H
    have g1 : (nints (P ++ y :: x :: suf))[P.length]? = some [I (y : Int)] := nints_get
    have g2 : (nints (P ++ y :: x :: suf))[P.length + 1]? = some [I (x : Int)] := by
      have := nints_get (P := P ++ [y]) (y := x) (R := suf)
      rw [eL, ePl] at this
      exact this
    have hPs : (P.length : Int) < 1000 := by rw [ePl] at hpl; omega
    rw [ePl]
    repeat (first | refine wp_gop_t ?_ | refine wp_gop_f rfl ?_ | refine wp_gop_u ?_ | refine wp_gcall_t ?_ | refine wp_gcall_f rfl ?_ | refine wp_gcall_u ?_ | refine wp_ite_t ?_ | refine wp_ite_f ?_ | refine wp_faddr ?_ | refine wp_nilchk ?_ | refine wp_op (o := .mv _) rfl ?_ | refine wp_op (o := .pick _ _ _) rfl ?_ | refine wp_op (o := .extract _ _) rfl ?_)
    refine wp_sub (c := (P.length : Int)) (by rw [wrap64 (by simp <;> omega) (by simp <;> omega)]; try simp) ?_
    repeat (first | refine wp_gop_t ?_ | refine wp_gop_f rfl ?_ | refine wp_gop_u ?_ | refine wp_gcall_t ?_ | refine wp_gcall_f rfl ?_ | refine wp_gcall_u ?_ | refine wp_ite_t ?_ | refine wp_ite_f ?_ | refine wp_faddr ?_ | refine wp_nilchk ?_ | refine wp_op (o := .mv _) rfl ?_ | refine wp_op (o := .pick _ _ _) rfl ?_ | refine wp_op (o := .extract _ _) rfl ?_)
    refine wp_saddro (i := P.length) H 0 rfl g1 fun q qo hq => ?_
    repeat (first | refine wp_gop_t ?_ | refine wp_gop_f rfl ?_ | refine wp_gop_u ?_ | refine wp_gcall_t ?_ | refine wp_gcall_f rfl ?_ | refine wp_gcall_u ?_ | refine wp_ite_t ?_ | refine wp_ite_f ?_ | refine wp_faddr ?_ | refine wp_nilchk ?_ | refine wp_op (o := .mv _) rfl ?_ | refine wp_op (o := .pick _ _ _) rfl ?_ | refine wp_op (o := .extract _ _) rfl ?_)
    refine wp_loadF (j := 0) hq rfl ?_
    repeat (first | refine wp_gop_t ?_ | refine wp_gop_f rfl ?_ | refine wp_gop_u ?_ | refine wp_gcall_t ?_ | refine wp_gcall_f rfl ?_ | refine wp_gcall_u ?_ | refine wp_ite_t ?_ | refine wp_ite_f ?_ | refine wp_faddr ?_ | refine wp_nilchk ?_ | refine wp_op (o := .mv _) rfl ?_ | refine wp_op (o := .pick _ _ _) rfl ?_ | refine wp_op (o := .extract _ _) rfl ?_)
    refine wp_saddro (i := P.length + 1) H 0 rfl g2 fun q2 qo2 hq2 => ?_
    repeat (first | refine wp_gop_t ?_ | refine wp_gop_f rfl ?_ | refine wp_gop_u ?_ | refine wp_gcall_t ?_ | refine wp_gcall_f rfl ?_ | refine wp_gcall_u ?_ | refine wp_ite_t ?_ | refine wp_ite_f ?_ | refine wp_faddr ?_ | refine wp_nilchk ?_ | refine wp_op (o := .mv _) rfl ?_ | refine wp_op (o := .pick _ _ _) rfl ?_ | refine wp_op (o := .extract _ _) rfl ?_)
    refine wp_loadF (j := 0) hq2 rfl ?_
    repeat (first | refine wp_gop_t ?_ | refine wp_gop_f rfl ?_ | refine wp_gop_u ?_ | refine wp_gcall_t ?_ | refine wp_gcall_f rfl ?_ | refine wp_gcall_u ?_ | refine wp_ite_t ?_ | refine wp_ite_f ?_ | refine wp_faddr ?_ | refine wp_nilchk ?_ | refine wp_op (o := .mv _) rfl ?_ | refine wp_op (o := .pick _ _ _) rfl ?_ | refine wp_op (o := .extract _ _) rfl ?_)
    refine wp_callV H (byPrio_ok (i := y) (j := x) hyl hx H h1 h2) fun S3 H => ?_
    repeat (first | refine wp_gop_t ?_ | refine wp_gop_f rfl ?_ | refine wp_gop_u ?_ | refine wp_gcall_t ?_ | refine wp_gcall_f rfl ?_ | refine wp_gcall_u ?_ | refine wp_ite_t ?_ | refine wp_ite_f ?_ | refine wp_faddr ?_ | refine wp_nilchk ?_ | refine wp_op (o := .mv _) rfl ?_ | refine wp_op (o := .pick _ _ _) rfl ?_ | refine wp_op (o := .extract _ _) rfl ?_)
    unfold cmpI
    by_cases hgt : l[x].prio < l[y].prio
    · rw [if_neg (by omega), if_pos hgt]
      refine wp_gtr_t (by omega) ?_
      repeat (first | refine wp_gop_t ?_ | refine wp_gop_f rfl ?_ | refine wp_gop_u ?_ | refine wp_gcall_t ?_ | refine wp_gcall_f rfl ?_ | refine wp_gcall_u ?_ | refine wp_ite_t ?_ | refine wp_ite_f ?_ | refine wp_faddr ?_ | refine wp_nilchk ?_ | refine wp_op (o := .mv _) rfl ?_ | refine wp_op (o := .pick _ _ _) rfl ?_ | refine wp_op (o := .extract _ _) rfl ?_)
      refine wp_bind ?_
      refine wp_sub (c := (P.length : Int)) (by rw [wrap64 (by simp <;> omega) (by simp <;> omega)]; try simp) ?_
      refine wp_saddro (i := P.length + 1) H 0 rfl g2 fun q3 qo3 hq3 => ?_
      refine wp_loadF (j := 0) hq3 rfl ?_
      refine wp_sub (c := (P.length : Int)) (by rw [wrap64 (by simp <;> omega) (by simp <;> omega)]; try simp) ?_
      refine wp_saddro (i := P.length) H 0 rfl g1 fun q4 qo4 hq4 => ?_
      refine wp_loadF (j := 0) hq4 rfl ?_
      refine wp_storeE (i := P.length) (y := I (x : Int)) H 0 rfl (by rw [nints_len]; simp) rfl rfl fun S4 H => ?_
      refine wp_storeE (i := P.length + 1) (y := I (y : Int)) H 0 rfl (by rw [List.length_set, nints_len]; simp) rfl rfl fun S5 H => ?_
      refine wp_ret ?_
      show wp EM _ _ _
      refine wp_sub (c := (P.length : Int)) (by rw [wrap64 (by simp <;> omega) (by simp <;> omega)]; try simp) ?_
      refine wp_ret (.inl ⟨rfl, P.length, by simp, P, y :: suf, rfl, rfl, by rw [hos]; simp, ?_, ?_⟩)
      · intro s hs
        rcases List.mem_cons.1 hs with rfl | hs
        · rw [prio_get hx, prio_get hyl]; exact hgt
        · exact hsuf s hs
      · have e : ((nints (P ++ y :: x :: suf)).set P.length (I (x : Int)).cells).set (P.length + 1) (I (y : Int)).cells = nints (P ++ x :: y :: suf) := by
          have := swap_l (nints P) [I (y : Int)] [I (x : Int)] (nints suf)
          rw [nints_len] at this
          have e1 : nints (P ++ y :: x :: suf) = nints P ++ [I (y : Int)] :: [I (x : Int)] :: nints suf := by simp [nints]
          have e2 : nints (P ++ x :: y :: suf) = nints P ++ [I (x : Int)] :: [I (y : Int)] :: nints suf := by simp [nints]
          rw [e1, e2]
          exact this
        have H' : Cx B0 W S5 [.sl u1 1 (((nints (P ++ y :: x :: suf)).set P.length (I (x : Int)).cells).set (P.length + 1) (I (y : Int)).cells)] ro := H
        rw [e] at H'
        exact H'
    · refine wp_gtr_f (by split <;> omega) ?_
      repeat (first | refine wp_gop_t ?_ | refine wp_gop_f rfl ?_ | refine wp_gop_u ?_ | refine wp_gcall_t ?_ | refine wp_gcall_f rfl ?_ | refine wp_gcall_u ?_ | refine wp_ite_t ?_ | refine wp_ite_f ?_ | refine wp_faddr ?_ | refine wp_nilchk ?_ | refine wp_op (o := .mv _) rfl ?_ | refine wp_op (o := .pick _ _ _) rfl ?_ | refine wp_op (o := .extract _ _) rfl ?_)
      refine wp_ret (.inr ⟨by simp, ?_⟩)
      show wp EM _ _ _
      refine wp_ret ⟨rfl, P ++ [y], suf, hos, hsuf, ?_, by rw [eL]; exact H⟩
      intro P' y' he
      have := List.append_inj' he rfl
      have hy : y = y' := by simpa using this.2
      rw [← hy, prio_get hx, prio_get hyl]
      omega
  · have h0 : pre = [] := by
      cases pre with
      | nil => rfl
      | cons a t => simp at hp; omega
    subst h0
    repeat (first | refine wp_gop_t ?_ | refine wp_gop_f rfl ?_ | refine wp_gop_u ?_ | refine wp_gcall_t ?_ | refine wp_gcall_f rfl ?_ | refine wp_gcall_u ?_ | refine wp_ite_t ?_ | refine wp_ite_f ?_ | refine wp_faddr ?_ | refine wp_nilchk ?_ | refine wp_op (o := .mv _) rfl ?_ | refine wp_op (o := .pick _ _ _) rfl ?_ | refine wp_op (o := .extract _ _) rfl ?_)
    refine wp_ret (.inr ⟨by simp, ?_⟩)
    show wp EM _ _ _
    exact wp_ret ⟨rfl, [], suf, hos, hsuf, fun P y h => by simp at h, H⟩
end Go.Abs
namespace Go.Abs
open Go.Proofs
set_option maxRecDepth 100000
def ofP (l : List Tk) (n p : Nat) : List Nat := (List.range n).filter fun i => decide (prio l i = (p : Int))
def ordS (l : List Tk) (n : Nat) : List Nat := (List.range 255).flatMap fun p => ofP l n p
def order (l : List Tk) : List Nat := if tchk l = 0 then ordS l l.length else []
theorem ofP_succ (l : List Tk) (n p : Nat) : ofP l (n + 1) p = if prio l n = (p : Int) then ofP l n p ++ [n] else ofP l n p := by
  unfold ofP
  rw [List.range_succ, List.filter_append]
  by_cases h : prio l n = (p : Int)
  · rw [if_pos h]; simp [h]
  · rw [if_neg h]; simp [h]
theorem mem_ofP {l : List Tk} {n p i : Nat} (h : i ∈ ofP l n p) : i < n ∧ prio l i = (p : Int) := by
  unfold ofP at h
  have := List.mem_filter.1 h
  exact ⟨List.mem_range.1 this.1, by simpa using this.2⟩
theorem mem_ordS {l : List Tk} {n i : Nat} (h : i ∈ ordS l n) : i < n := by
  unfold ordS at h
  obtain ⟨p, _, hp⟩ := List.mem_flatMap.1 h
  exact (mem_ofP hp).1
theorem flat_congr {α β : Type} {L : List α} {f g : α → List β} (h : ∀ x ∈ L, f x = g x) : L.flatMap f = L.flatMap g := by
  induction L with
  | nil => rfl
  | cons a L ih => rw [List.flatMap_cons, List.flatMap_cons, h a (by simp), ih fun x hx => h x (by simp [hx])]
theorem ord_insert {l : List Tk} {n q : Nat} (hq : prio l n = (q : Int)) (hq1 : q < 255) {pre suf : List Nat} (he : ordS l n = pre ++ suf) (hsuf : ∀ s ∈ suf, prio l n < prio l s) (hpre : ∀ P y, pre = P ++ [y] → prio l y ≤ prio l n) : pre ++ n :: suf = ordS l (n + 1) := by
  have e255 : List.range 255 = List.range (q + 1) ++ (List.range (254 - q)).map (q + 1 + ·) := by
    rw [← List.range_add]; congr 1; omega
  have hA : ∀ x ∈ (List.range (q + 1)).flatMap (fun p => ofP l n p), prio l x ≤ (q : Int) := by
    intro x hx
    obtain ⟨p, hp, h⟩ := List.mem_flatMap.1 hx
    have := (mem_ofP h).2
    have := List.mem_range.1 hp
    omega
  have hB : ∀ x ∈ ((List.range (254 - q)).map (q + 1 + ·)).flatMap (fun p => ofP l n p), (q : Int) < prio l x := by
    intro x hx
    obtain ⟨p, hp, h⟩ := List.mem_flatMap.1 hx
    have := (mem_ofP h).2
    obtain ⟨m, _, rfl⟩ := List.mem_map.1 hp
    omega
  have hA' : (List.range (q + 1)).flatMap (fun p => ofP l (n + 1) p) = (List.range (q + 1)).flatMap (fun p => ofP l n p) ++ [n] := by
    rw [List.range_succ, List.flatMap_append, List.flatMap_append, List.flatMap_singleton, List.flatMap_singleton, ofP_succ, if_pos hq, List.append_assoc]
    congr 1
    exact flat_congr fun p hp => by
      have := List.mem_range.1 hp
      rw [ofP_succ, if_neg (by omega)]
  have hB' : ((List.range (254 - q)).map (q + 1 + ·)).flatMap (fun p => ofP l (n + 1) p) = ((List.range (254 - q)).map (q + 1 + ·)).flatMap (fun p => ofP l n p) := flat_congr fun p hp => by
    obtain ⟨m, _, rfl⟩ := List.mem_map.1 hp
    rw [ofP_succ, if_neg (by omega)]
  unfold ordS at he ⊢
  rw [e255, List.flatMap_append] at he ⊢
  rw [hA', hB']
  generalize (List.range (q + 1)).flatMap (fun p => ofP l n p) = A at he hA
  generalize ((List.range (254 - q)).map (q + 1 + ·)).flatMap (fun p => ofP l n p) = C at he hB
  have key : pre = A ∧ suf = C := by
    rcases List.append_eq_append_iff.1 he with ⟨a, h1, h2⟩ | ⟨a, h1, h2⟩
    · -- pre = A ++ a, C = a ++ suf
      rcases List.eq_nil_or_concat a with h | ⟨P, y, h⟩
      · subst h; exact ⟨by simpa using h1, by simpa using h2.symm⟩
      · have h : a = P ++ [y] := by simpa using h
        subst h
        have := hpre (A ++ P) y (by rw [h1]; simp)
        have := hB y (by rw [h2]; simp)
        omega
    · -- A = pre ++ a, suf = a ++ C
      cases a with
      | nil => exact ⟨by simpa using h1.symm, by simpa using h2⟩
      | cons y t =>
        have := hsuf y (by rw [h2]; simp)
        have := hA y (by rw [h1]; simp)
        omega
  rw [key.1, key.2]
  simp
theorem tfirst_all {l : List Tk} (h : tfirst l = 0) : ∀ x ∈ l, tone x = 0 := by
  induction l with
  | nil => intro x hx; cases hx
  | cons a l ih =>
    unfold tfirst at h
    split at h
    · rename_i ha
      intro x hx
      rcases List.mem_cons.1 hx with rfl | hx
      · exact ha
      · exact ih h x hx
    · rename_i ha
      exact absurd h ha
theorem prio_bd {l : List Tk} (h : tchk l = 0) {i : Nat} (hi : i < l.length) : ∃ q : Nat, prio l i = (q : Int) ∧ q < 255 := by
  have hlen := tchk_len h
  unfold tchk at h
  rw [if_neg (by omega)] at h
  have := tfirst_all h l[i] (List.getElem_mem hi)
  rw [prio_get hi]
  unfold tone at this
  split at this
  · cases this
  · split at this
    · cases this
    · exact ⟨l[i].prio.toNat, by omega, by omega⟩
theorem ordS_len {l : List Tk} (h : tchk l = 0) : ∀ n : Nat, n ≤ l.length → (ordS l n).length = n
  | 0, _ => by
    have e : ordS l 0 = [] := by unfold ordS ofP; simp
    rw [e]; rfl
  | n + 1, hn => by
    obtain ⟨q, h1, h2⟩ := prio_bd h (show n < l.length by omega)
    have ih := ordS_len h n (by omega)
    -- cut where the new one comes to
    have e255 : List.range 255 = List.range (q + 1) ++ (List.range (254 - q)).map (q + 1 + ·) := by
      rw [← List.range_add]; congr 1; omega
    have hc : ordS l n = (List.range (q + 1)).flatMap (fun p => ofP l n p) ++ ((List.range (254 - q)).map (q + 1 + ·)).flatMap (fun p => ofP l n p) := by
      unfold ordS; rw [e255, List.flatMap_append]
    have := ord_insert h1 h2 hc (fun s hs => by
      obtain ⟨p, hp, h⟩ := List.mem_flatMap.1 hs
      have := (mem_ofP h).2
      obtain ⟨m, _, rfl⟩ := List.mem_map.1 hp
      omega) (fun P y hy => by
      have : y ∈ (List.range (q + 1)).flatMap (fun p => ofP l n p) := by rw [hy]; simp
      obtain ⟨p, hp, h⟩ := List.mem_flatMap.1 this
      have := (mem_ofP h).2
      have := List.mem_range.1 hp
      omega)
    rw [← this]
    rw [hc, List.length_append] at ih
    rw [List.length_append, List.length_cons]
    omega
theorem order_ok {S : AH} {v : AV} {l : List Tk} (hv : RoSl S v 4 (tks l)) : wpC EM (.fn (.func 30) [] []) [v] S fun r S' => Cx S [] S' [.sl r 1 (nints (order l))] [] := by
  refine wpC_fn (b := Try.a30) rfl rfl ?_
  have H := Cx.ro1 hv
  have hod := slOk_odd hv.1
  unfold Try.a30 order
  refine wp_box H hod.1 fun b S1 H => ?_
  replace H : Cx S [] S1 [] [.pt b 0 v.cells, .sl v 4 (tks l)] := H
  rw [hod.2] at H
  refine wp_load0 H (cs := [v]) (by repeat (first | exact List.Mem.head _ | apply List.Mem.tail)) rfl ?_
  refine wp_callV H (check_ok (v := v) (l := l) (H.roSl (by repeat (first | exact List.Mem.head _ | apply List.Mem.tail)))) fun S2 H => ?_
  have H0 : Cx S [] S2 [.sl Ns 1 (nints [])] [.pt b 0 [v], .sl v 4 (tks l)] := H.addOwn (Grows.refl _) (.inl ⟨rfl, rfl⟩) (by simp [Own.ids, vids])
  refine wp_neq (fun hne => ?_) (fun he => ?_)
  · rw [if_neg hne]
    repeat (first | refine wp_gop_t ?_ | refine wp_gop_f rfl ?_ | refine wp_gop_u ?_ | refine wp_gcall_t ?_ | refine wp_gcall_f rfl ?_ | refine wp_gcall_u ?_ | refine wp_ite_t ?_ | refine wp_ite_f ?_ | refine wp_faddr ?_ | refine wp_nilchk ?_ | refine wp_op (o := .mv _) rfl ?_ | refine wp_op (o := .pick _ _ _) rfl ?_ | refine wp_op (o := .extract _ _) rfl ?_)
    exact wp_ret ⟨rfl, H0.dropRo (by simp)⟩
  rw [if_pos he]
  have hlen := tchk_len he
  repeat (first | refine wp_gop_t ?_ | refine wp_gop_f rfl ?_ | refine wp_gop_u ?_ | refine wp_gcall_t ?_ | refine wp_gcall_f rfl ?_ | refine wp_gcall_u ?_ | refine wp_ite_t ?_ | refine wp_ite_f ?_ | refine wp_faddr ?_ | refine wp_nilchk ?_ | refine wp_op (o := .mv _) rfl ?_ | refine wp_op (o := .pick _ _ _) rfl ?_ | refine wp_op (o := .extract _ _) rfl ?_)
  refine wp_load0 H0 (cs := [v]) (by repeat (first | exact List.Mem.head _ | apply List.Mem.tail)) rfl ?_
  refine wp_len (v := v) (L := tks l) H0 (by repeat (first | exact List.Mem.head _ | apply List.Mem.tail)) ?_
  rw [tks_len]
  refine wp_bind (wp_loop (wpL_for l.length (fun i vs S1 => ∃ u : AV, vs = [I (i : Int), u] ∧ Cx S [] S1 [.sl u 1 (nints (ordS l i))] [.pt b 0 [v], .sl v 4 (tks l)]) ?_ ?_ ⟨Ns, rfl, by
    have e : ordS l 0 = [] := by unfold ordS ofP; simp
    rw [e]; exact H0⟩))
  · rintro i vs S3 hlt ⟨u, rfl, H⟩
    obtain ⟨q, hq, hq1⟩ := prio_bd he hlt
    refine wp_lss_t (by omega) ?_
    repeat (first | refine wp_gop_t ?_ | refine wp_gop_f rfl ?_ | refine wp_gop_u ?_ | refine wp_gcall_t ?_ | refine wp_gcall_f rfl ?_ | refine wp_gcall_u ?_ | refine wp_ite_t ?_ | refine wp_ite_f ?_ | refine wp_faddr ?_ | refine wp_nilchk ?_ | refine wp_op (o := .mv _) rfl ?_ | refine wp_op (o := .pick _ _ _) rfl ?_ | refine wp_op (o := .extract _ _) rfl ?_)
    refine wp_bind ?_
    refine wp_call (wpC_mono (insert_ok (x := i) (out := ordS l i) (fun y hy => by have := mem_ordS hy; omega) hlt (by rw [ordS_len he i (by omega)]; omega) H (by repeat (first | exact List.Mem.head _ | apply List.Mem.tail)) (by repeat (first | exact List.Mem.head _ | apply List.Mem.tail))) fun r S4 ⟨pre, suf, e1, e2, e3, H⟩ => ?_)
    rw [ord_insert hq hq1 e1 e2 e3] at H
    refine wp_ret ?_
    show wp EM _ _ _
    exact wp_add64 (by omega) (by omega) (wp_ret (.inl ⟨rfl, r, rfl, H⟩))
  · rintro vs S3 ⟨u, rfl, H⟩
    refine wp_lss_f (by omega) ?_
    repeat (first | refine wp_gop_t ?_ | refine wp_gop_f rfl ?_ | refine wp_gop_u ?_ | refine wp_gcall_t ?_ | refine wp_gcall_f rfl ?_ | refine wp_gcall_u ?_ | refine wp_ite_t ?_ | refine wp_ite_f ?_ | refine wp_faddr ?_ | refine wp_nilchk ?_ | refine wp_op (o := .mv _) rfl ?_ | refine wp_op (o := .pick _ _ _) rfl ?_ | refine wp_op (o := .extract _ _) rfl ?_)
    exact wp_ret ⟨by simp, wp_ret ⟨rfl, H.dropRo (by simp)⟩⟩
theorem nints_snoc (L : List Nat) (x : Nat) : nints (L ++ [x]) = nints L ++ [[I (x : Int)]] := by simp [nints]
theorem ofP_len (l : List Tk) (n p : Nat) : (ofP l n p).length ≤ n := by unfold ofP; exact Nat.le_trans (List.length_filter_le _ _) (by simp)
theorem flat_len (l : List Tk) (n : Nat) : ∀ p, ((List.range p).flatMap fun p => ofP l n p).length ≤ p * n
  | 0 => by simp
  | p + 1 => by
    have := flat_len l n p
    have := ofP_len l n p
    rw [List.range_succ, List.flatMap_append, List.flatMap_singleton, List.length_append, Nat.succ_mul]
    omega
theorem refOrder_ok {S : AH} {v : AV} {l : List Tk} (hv : RoSl S v 4 (tks l)) : wpC EM (.fn (.func 34) [] []) [v] S fun r S' => Cx S [] S' [.sl r 1 (nints (order l))] [] := by
  refine wpC_fn (b := Try.a34) rfl rfl ?_
  have H := Cx.ro1 hv
  unfold Try.a34 order
  refine wp_callV H (refCheck_ok (H.roSl (by repeat (first | exact List.Mem.head _ | apply List.Mem.tail)))) fun S2 H => ?_
  have H0 : Cx S [] S2 [.sl Ns 1 (nints [])] [.sl v 4 (tks l)] := H.addOwn (Grows.refl _) (.inl ⟨rfl, rfl⟩) (by simp [Own.ids, vids])
  refine wp_neq (fun hne => ?_) (fun he => ?_)
  · rw [if_neg hne]
    repeat (first | refine wp_gop_t ?_ | refine wp_gop_f rfl ?_ | refine wp_gop_u ?_ | refine wp_gcall_t ?_ | refine wp_gcall_f rfl ?_ | refine wp_gcall_u ?_ | refine wp_ite_t ?_ | refine wp_ite_f ?_ | refine wp_faddr ?_ | refine wp_nilchk ?_ | refine wp_op (o := .mv _) rfl ?_ | refine wp_op (o := .pick _ _ _) rfl ?_ | refine wp_op (o := .extract _ _) rfl ?_)
    exact wp_ret ⟨rfl, H0.dropRo (by simp)⟩
  rw [if_pos he]
  have hlen := tchk_len he
  repeat (first | refine wp_gop_t ?_ | refine wp_gop_f rfl ?_ | refine wp_gop_u ?_ | refine wp_gcall_t ?_ | refine wp_gcall_f rfl ?_ | refine wp_gcall_u ?_ | refine wp_ite_t ?_ | refine wp_ite_f ?_ | refine wp_faddr ?_ | refine wp_nilchk ?_ | refine wp_op (o := .mv _) rfl ?_ | refine wp_op (o := .pick _ _ _) rfl ?_ | refine wp_op (o := .extract _ _) rfl ?_)
  refine wp_bind (wp_loop (wpL_for 255 (fun p vs S1 => ∃ u w : AV, vs = [I (p : Int), u, w] ∧ Cx S [] S1 [.sl u 1 (nints ((List.range p).flatMap fun p => ofP l l.length p))] [.sl v 4 (tks l)]) ?_ ?_ ⟨Ns, _, rfl, H0⟩))
  · rintro p vs S3 hp ⟨u, w, rfl, H⟩
    have hfl := flat_len l l.length p
    have hfl2 : ((List.range p).flatMap fun p => ofP l l.length p).length ≤ 255 * 32 := Nat.le_trans hfl (Nat.mul_le_mul (by omega) hlen)
    generalize hF : ((List.range p).flatMap fun p => ofP l l.length p) = F at H hfl2
    refine wp_leq_t (by omega) ?_
    repeat (first | refine wp_gop_t ?_ | refine wp_gop_f rfl ?_ | refine wp_gop_u ?_ | refine wp_gcall_t ?_ | refine wp_gcall_f rfl ?_ | refine wp_gcall_u ?_ | refine wp_ite_t ?_ | refine wp_ite_f ?_ | refine wp_faddr ?_ | refine wp_nilchk ?_ | refine wp_op (o := .mv _) rfl ?_ | refine wp_op (o := .pick _ _ _) rfl ?_ | refine wp_op (o := .extract _ _) rfl ?_)
    refine wp_bind (wp_bind (wp_loop (wpL_for l.length (fun i vs S1 => ∃ u : AV, vs = [I (i : Int), u] ∧ Cx S [] S1 [.sl u 1 (nints (F ++ ofP l i p))] [.sl v 4 (tks l)]) ?_ ?_ ⟨u, rfl, by
      have e : F ++ ofP l 0 p = F := by unfold ofP; simp
      rw [e]; exact H⟩)))
    · rintro i vs S4 hlt ⟨u, rfl, H⟩
      have hol := ofP_len l i p
      refine wp_len H (by repeat (first | exact List.Mem.head _ | apply List.Mem.tail)) ?_
      rw [tks_len]
      refine wp_lss_t (by omega) ?_
      repeat (first | refine wp_gop_t ?_ | refine wp_gop_f rfl ?_ | refine wp_gop_u ?_ | refine wp_gcall_t ?_ | refine wp_gcall_f rfl ?_ | refine wp_gcall_u ?_ | refine wp_ite_t ?_ | refine wp_ite_f ?_ | refine wp_faddr ?_ | refine wp_nilchk ?_ | refine wp_op (o := .mv _) rfl ?_ | refine wp_op (o := .pick _ _ _) rfl ?_ | refine wp_op (o := .extract _ _) rfl ?_)
      refine wp_bind ?_
      refine wp_saddr (i := i) H (by repeat (first | exact List.Mem.head _ | apply List.Mem.tail)) (tks_get hlt) fun q off H => ?_
      repeat (first | refine wp_gop_t ?_ | refine wp_gop_f rfl ?_ | refine wp_gop_u ?_ | refine wp_gcall_t ?_ | refine wp_gcall_f rfl ?_ | refine wp_gcall_u ?_ | refine wp_ite_t ?_ | refine wp_ite_f ?_ | refine wp_faddr ?_ | refine wp_nilchk ?_ | refine wp_op (o := .mv _) rfl ?_ | refine wp_op (o := .pick _ _ _) rfl ?_ | refine wp_op (o := .extract _ _) rfl ?_)
      refine wp_load1 H (cs := l[i].cs) (by repeat (first | exact List.Mem.head _ | apply List.Mem.tail)) rfl ?_
      refine wp_eql (fun heq => ?_) (fun hne => ?_)
      · refine wp_bind ?_
        repeat (first | refine wp_gop_t ?_ | refine wp_gop_f rfl ?_ | refine wp_gop_u ?_ | refine wp_gcall_t ?_ | refine wp_gcall_f rfl ?_ | refine wp_gcall_u ?_ | refine wp_ite_t ?_ | refine wp_ite_f ?_ | refine wp_faddr ?_ | refine wp_nilchk ?_ | refine wp_op (o := .mv _) rfl ?_ | refine wp_op (o := .pick _ _ _) rfl ?_ | refine wp_op (o := .extract _ _) rfl ?_)
        refine wp_push H 0 rfl rfl rfl rfl (by rw [nints_len, List.length_append]; unfold maxBytes; omega) (by rw [nints_len, List.length_append]; unfold maxLenN; omega) fun u1 S5 H => ?_
        refine wp_ret (wp_ret ?_)
        show wp EM _ _ _
        refine wp_add64 (by omega) (by omega) (wp_ret (.inl ⟨rfl, u1, rfl, ?_⟩))
        rw [ofP_succ, if_pos (by rw [prio_get hlt]; exact heq), ← List.append_assoc, nints_snoc]
        exact H.tl
      · refine wp_bind ?_
        repeat (first | refine wp_gop_t ?_ | refine wp_gop_f rfl ?_ | refine wp_gop_u ?_ | refine wp_gcall_t ?_ | refine wp_gcall_f rfl ?_ | refine wp_gcall_u ?_ | refine wp_ite_t ?_ | refine wp_ite_f ?_ | refine wp_faddr ?_ | refine wp_nilchk ?_ | refine wp_op (o := .mv _) rfl ?_ | refine wp_op (o := .pick _ _ _) rfl ?_ | refine wp_op (o := .extract _ _) rfl ?_)
        refine wp_ret (wp_ret ?_)
        show wp EM _ _ _
        refine wp_add64 (by omega) (by omega) (wp_ret (.inl ⟨rfl, u, rfl, ?_⟩))
        rw [ofP_succ, if_neg (by rw [prio_get hlt]; exact hne)]
        exact H.tl
    · rintro vs S4 ⟨u, rfl, H⟩
      refine wp_len H (by repeat (first | exact List.Mem.head _ | apply List.Mem.tail)) ?_
      rw [tks_len]
      refine wp_lss_f (by omega) ?_
      repeat (first | refine wp_gop_t ?_ | refine wp_gop_f rfl ?_ | refine wp_gop_u ?_ | refine wp_gcall_t ?_ | refine wp_gcall_f rfl ?_ | refine wp_gcall_u ?_ | refine wp_ite_t ?_ | refine wp_ite_f ?_ | refine wp_faddr ?_ | refine wp_nilchk ?_ | refine wp_op (o := .mv _) rfl ?_ | refine wp_op (o := .pick _ _ _) rfl ?_ | refine wp_op (o := .extract _ _) rfl ?_)
      refine wp_ret ⟨by simp, ?_⟩
      show wp EM _ _ _
      refine wp_ret ?_
      show wp EM _ _ _
      refine wp_add64 (by omega) (by omega) (wp_ret (.inl ⟨rfl, u, _, rfl, ?_⟩))
      rw [List.range_succ, List.flatMap_append, List.flatMap_singleton, hF]
      exact H
  · rintro vs S3 ⟨u, w, rfl, H⟩
    refine wp_leq_f (by omega) ?_
    repeat (first | refine wp_gop_t ?_ | refine wp_gop_f rfl ?_ | refine wp_gop_u ?_ | refine wp_gcall_t ?_ | refine wp_gcall_f rfl ?_ | refine wp_gcall_u ?_ | refine wp_ite_t ?_ | refine wp_ite_f ?_ | refine wp_faddr ?_ | refine wp_nilchk ?_ | refine wp_op (o := .mv _) rfl ?_ | refine wp_op (o := .pick _ _ _) rfl ?_ | refine wp_op (o := .extract _ _) rfl ?_)
    exact wp_ret ⟨by simp, wp_ret ⟨rfl, H.dropRo (by simp)⟩⟩
end Go.Abs
namespace Go.Abs
open Go.Proofs
set_option maxRecDepth 100000
theorem nints_ints (L : List Nat) : nints L = ints (L.map fun (i : Nat) => (i : Int)) := by simp [nints, ints]
theorem tkey_form (l : List Tk) (t s r : Int) : ∃ w e, tkey l t s r = .tup [U w, I e] := by
  unfold tkey
  split
  · exact ⟨_, _, rfl⟩
  · split
    · exact putk_form _ _ _
    · exact ⟨_, _, rfl⟩
theorem order_len (l : List Tk) : (order l).length ≤ 32 := by
  unfold order
  split
  · rename_i h
    rw [ordS_len h _ (Nat.le_refl _)]
    exact tchk_len h
  · simp
theorem taskTables_ok {S : AH} {v : AV} {l : List Tk} {a b t s r c : Int} (hv : RoSl S v 4 (tks l)) : wpC EM (.fn (.func 5) [] []) [v, I a, I b, I t, I s, I r, I c] S fun x _ => x = B true := by
  refine wpC_fn (b := Try.a5) rfl rfl ?_
  have H := Cx.ro1 hv
  unfold Try.a5
  refine wp_len H (by repeat (first | exact List.Mem.head _ | apply List.Mem.tail)) ?_
  rw [tks_len]
  refine wp_gtr (fun hlt => ?_) (fun hge => ?_)
  · repeat (first | refine wp_gop_t ?_ | refine wp_gop_f rfl ?_ | refine wp_gop_u ?_ | refine wp_gcall_t ?_ | refine wp_gcall_f rfl ?_ | refine wp_gcall_u ?_ | refine wp_ite_t ?_ | refine wp_ite_f ?_ | refine wp_faddr ?_ | refine wp_nilchk ?_ | refine wp_op (o := .mv _) rfl ?_ | refine wp_op (o := .pick _ _ _) rfl ?_ | refine wp_op (o := .extract _ _) rfl ?_)
    exact awake_ok (wp_ret ⟨rfl, rfl⟩)
  have hl : l.length ≤ 40 := by omega
  obtain ⟨kw, ke, hk⟩ := tkey_form l t s r
  have hol := order_len l
  have hdl := due_len l a
  generalize hO : (order l).map (fun (i : Nat) => (i : Int)) = O
  have hOl : O.length ≤ 32 := by rw [← hO, List.length_map]; exact hol
  have ord1 : ∀ {S : AH} {v : AV}, RoSl S v 4 (tks l) → wpC EM (.fn (.func 30) [] []) [v] S fun r S' => Cx S [] S' [.sl r 1 (ints O)] [] := by
    intro S v h
    have := order_ok h
    rw [nints_ints, hO] at this
    exact this
  have ord2 : ∀ {S : AH} {v : AV}, RoSl S v 4 (tks l) → wpC EM (.fn (.func 34) [] []) [v] S fun r S' => Cx S [] S' [.sl r 1 (ints O)] [] := by
    intro S v h
    have := refOrder_ok h
    rw [nints_ints, hO] at this
    exact this
  repeat (first | refine wp_gop_t ?_ | refine wp_gop_f rfl ?_ | refine wp_gop_u ?_ | refine wp_gcall_t ?_ | refine wp_gcall_f rfl ?_ | refine wp_gcall_u ?_ | refine wp_ite_t ?_ | refine wp_ite_f ?_ | refine wp_faddr ?_ | refine wp_nilchk ?_ | refine wp_op (o := .mv _) rfl ?_ | refine wp_op (o := .pick _ _ _) rfl ?_ | refine wp_op (o := .extract _ _) rfl ?_)
  refine wp_callN H (copyT_ok (H.roSl (by repeat (first | exact List.Mem.head _ | apply List.Mem.tail))) (by omega)) fun d S1 H => ?_
  replace H : Cx S [] S1 [] [.sl d 4 (tks l), .sl v 4 (tks l)] := H.toRo (i := 0) rfl
  refine wp_callV H (key_ok (v := d) (l := l) (H.roSl (by repeat (first | exact List.Mem.head _ | apply List.Mem.tail)))) fun S2 H => ?_
  rw [hk]
  repeat (first | refine wp_gop_t ?_ | refine wp_gop_f rfl ?_ | refine wp_gop_u ?_ | refine wp_gcall_t ?_ | refine wp_gcall_f rfl ?_ | refine wp_gcall_u ?_ | refine wp_ite_t ?_ | refine wp_ite_f ?_ | refine wp_faddr ?_ | refine wp_nilchk ?_ | refine wp_op (o := .mv _) rfl ?_ | refine wp_op (o := .pick _ _ _) rfl ?_ | refine wp_op (o := .extract _ _) rfl ?_)
  refine wp_callV H (refKey_ok (v := v) (l := l) (H.roSl (by repeat (first | exact List.Mem.head _ | apply List.Mem.tail)))) fun S3 H => ?_
  rw [hk]
  repeat (first | refine wp_gop_t ?_ | refine wp_gop_f rfl ?_ | refine wp_gop_u ?_ | refine wp_gcall_t ?_ | refine wp_gcall_f rfl ?_ | refine wp_gcall_u ?_ | refine wp_ite_t ?_ | refine wp_ite_f ?_ | refine wp_faddr ?_ | refine wp_nilchk ?_ | refine wp_op (o := .mv _) rfl ?_ | refine wp_op (o := .pick _ _ _) rfl ?_ | refine wp_op (o := .extract _ _) rfl ?_)
  refine wp_callN H (due_ok (v := d) (l := l) (H.roSl (by repeat (first | exact List.Mem.head _ | apply List.Mem.tail)))) fun x S4 H => ?_
  refine wp_callN H (ord1 (v := d) (H.roSl (by repeat (first | exact List.Mem.head _ | apply List.Mem.tail)))) fun y S5 H => ?_
  refine wp_eql_t rfl ?_
  repeat (first | refine wp_gop_t ?_ | refine wp_gop_f rfl ?_ | refine wp_gop_u ?_ | refine wp_gcall_t ?_ | refine wp_gcall_f rfl ?_ | refine wp_gcall_u ?_ | refine wp_ite_t ?_ | refine wp_ite_f ?_ | refine wp_faddr ?_ | refine wp_nilchk ?_ | refine wp_op (o := .mv _) rfl ?_ | refine wp_op (o := .pick _ _ _) rfl ?_ | refine wp_op (o := .extract _ _) rfl ?_)
  refine wp_eql_t rfl ?_
  repeat (first | refine wp_gop_t ?_ | refine wp_gop_f rfl ?_ | refine wp_gop_u ?_ | refine wp_gcall_t ?_ | refine wp_gcall_f rfl ?_ | refine wp_gcall_u ?_ | refine wp_ite_t ?_ | refine wp_ite_f ?_ | refine wp_faddr ?_ | refine wp_nilchk ?_ | refine wp_op (o := .mv _) rfl ?_ | refine wp_op (o := .pick _ _ _) rfl ?_ | refine wp_op (o := .extract _ _) rfl ?_)
  refine wp_callV H (all_ok (v := d) (l := l) (H.roSl (by repeat (first | exact List.Mem.head _ | apply List.Mem.tail)))) fun S6 H => ?_
  repeat (first | refine wp_gop_t ?_ | refine wp_gop_f rfl ?_ | refine wp_gop_u ?_ | refine wp_gcall_t ?_ | refine wp_gcall_f rfl ?_ | refine wp_gcall_u ?_ | refine wp_ite_t ?_ | refine wp_ite_f ?_ | refine wp_faddr ?_ | refine wp_nilchk ?_ | refine wp_op (o := .mv _) rfl ?_ | refine wp_op (o := .pick _ _ _) rfl ?_ | refine wp_op (o := .extract _ _) rfl ?_)
  refine wp_callV H (refAll_ok (v := v) (l := l) (H.roSl (by repeat (first | exact List.Mem.head _ | apply List.Mem.tail)))) fun S7 H => ?_
  repeat (first | refine wp_gop_t ?_ | refine wp_gop_f rfl ?_ | refine wp_gop_u ?_ | refine wp_gcall_t ?_ | refine wp_gcall_f rfl ?_ | refine wp_gcall_u ?_ | refine wp_ite_t ?_ | refine wp_ite_f ?_ | refine wp_faddr ?_ | refine wp_nilchk ?_ | refine wp_op (o := .mv _) rfl ?_ | refine wp_op (o := .pick _ _ _) rfl ?_ | refine wp_op (o := .extract _ _) rfl ?_)
  refine wp_eql_t rfl ?_
  repeat (first | refine wp_gop_t ?_ | refine wp_gop_f rfl ?_ | refine wp_gop_u ?_ | refine wp_gcall_t ?_ | refine wp_gcall_f rfl ?_ | refine wp_gcall_u ?_ | refine wp_ite_t ?_ | refine wp_ite_f ?_ | refine wp_faddr ?_ | refine wp_nilchk ?_ | refine wp_op (o := .mv _) rfl ?_ | refine wp_op (o := .pick _ _ _) rfl ?_ | refine wp_op (o := .extract _ _) rfl ?_)
  refine wp_callN H (refDue_ok (v := v) (l := l) (H.roSl (by repeat (first | exact List.Mem.head _ | apply List.Mem.tail)))) fun x2 S8 H => ?_
  repeat (first | refine wp_gop_t ?_ | refine wp_gop_f rfl ?_ | refine wp_gop_u ?_ | refine wp_gcall_t ?_ | refine wp_gcall_f rfl ?_ | refine wp_gcall_u ?_ | refine wp_ite_t ?_ | refine wp_ite_f ?_ | refine wp_faddr ?_ | refine wp_nilchk ?_ | refine wp_op (o := .mv _) rfl ?_ | refine wp_op (o := .pick _ _ _) rfl ?_ | refine wp_op (o := .extract _ _) rfl ?_)
  refine wp_callV H (sameN_ok (l := due l a) (H.ownSl (n := 2) rfl) (H.ownSl (n := 0) rfl) (by omega)) fun S9 H => ?_
  repeat (first | refine wp_gop_t ?_ | refine wp_gop_f rfl ?_ | refine wp_gop_u ?_ | refine wp_gcall_t ?_ | refine wp_gcall_f rfl ?_ | refine wp_gcall_u ?_ | refine wp_ite_t ?_ | refine wp_ite_f ?_ | refine wp_faddr ?_ | refine wp_nilchk ?_ | refine wp_op (o := .mv _) rfl ?_ | refine wp_op (o := .pick _ _ _) rfl ?_ | refine wp_op (o := .extract _ _) rfl ?_)
  refine wp_callN H (ord2 (v := v) (H.roSl (by repeat (first | exact List.Mem.head _ | apply List.Mem.tail)))) fun y2 S10 H => ?_
  repeat (first | refine wp_gop_t ?_ | refine wp_gop_f rfl ?_ | refine wp_gop_u ?_ | refine wp_gcall_t ?_ | refine wp_gcall_f rfl ?_ | refine wp_gcall_u ?_ | refine wp_ite_t ?_ | refine wp_ite_f ?_ | refine wp_faddr ?_ | refine wp_nilchk ?_ | refine wp_op (o := .mv _) rfl ?_ | refine wp_op (o := .pick _ _ _) rfl ?_ | refine wp_op (o := .extract _ _) rfl ?_)
  refine wp_callV H (sameN_ok (l := O) (H.ownSl (n := 2) rfl) (H.ownSl (n := 0) rfl) (by omega)) fun S11 H => ?_
  repeat (first | refine wp_gop_t ?_ | refine wp_gop_f rfl ?_ | refine wp_gop_u ?_ | refine wp_gcall_t ?_ | refine wp_gcall_f rfl ?_ | refine wp_gcall_u ?_ | refine wp_ite_t ?_ | refine wp_ite_f ?_ | refine wp_faddr ?_ | refine wp_nilchk ?_ | refine wp_op (o := .mv _) rfl ?_ | refine wp_op (o := .pick _ _ _) rfl ?_ | refine wp_op (o := .extract _ _) rfl ?_)
  refine wp_callV H home_ok fun S12 H => ?_
  repeat (first | refine wp_gop_t ?_ | refine wp_gop_f rfl ?_ | refine wp_gop_u ?_ | refine wp_gcall_t ?_ | refine wp_gcall_f rfl ?_ | refine wp_gcall_u ?_ | refine wp_ite_t ?_ | refine wp_ite_f ?_ | refine wp_faddr ?_ | refine wp_nilchk ?_ | refine wp_op (o := .mv _) rfl ?_ | refine wp_op (o := .pick _ _ _) rfl ?_ | refine wp_op (o := .extract _ _) rfl ?_)
  refine wp_callV H refHome_ok fun S13 H => ?_
  repeat (first | refine wp_gop_t ?_ | refine wp_gop_f rfl ?_ | refine wp_gop_u ?_ | refine wp_gcall_t ?_ | refine wp_gcall_f rfl ?_ | refine wp_gcall_u ?_ | refine wp_ite_t ?_ | refine wp_ite_f ?_ | refine wp_faddr ?_ | refine wp_nilchk ?_ | refine wp_op (o := .mv _) rfl ?_ | refine wp_op (o := .pick _ _ _) rfl ?_ | refine wp_op (o := .extract _ _) rfl ?_)
  refine wp_eql_t rfl ?_
  repeat (first | refine wp_gop_t ?_ | refine wp_gop_f rfl ?_ | refine wp_gop_u ?_ | refine wp_gcall_t ?_ | refine wp_gcall_f rfl ?_ | refine wp_gcall_u ?_ | refine wp_ite_t ?_ | refine wp_ite_f ?_ | refine wp_faddr ?_ | refine wp_nilchk ?_ | refine wp_op (o := .mv _) rfl ?_ | refine wp_op (o := .pick _ _ _) rfl ?_ | refine wp_op (o := .extract _ _) rfl ?_)
  refine wp_callT H 3 rfl (overI_ok (L := ints (due l a)) (H.oh (.sl x 1 (ints (due l a))) (by simp)) (H.ownSl (n := 3) rfl).2 (by rw [ints_len]; omega)) fun _ S14 L1 H => ?_
  refine wp_callT H 2 rfl (overI_ok (L := ints O) (H.oh (.sl y 1 (ints O)) (by simp)) (H.ownSl (n := 2) rfl).2 (by rw [ints_len]; omega)) fun _ S15 L2 H => ?_
  repeat (first | refine wp_gop_t ?_ | refine wp_gop_f rfl ?_ | refine wp_gop_u ?_ | refine wp_gcall_t ?_ | refine wp_gcall_f rfl ?_ | refine wp_gcall_u ?_ | refine wp_ite_t ?_ | refine wp_ite_f ?_ | refine wp_faddr ?_ | refine wp_nilchk ?_ | refine wp_op (o := .mv _) rfl ?_ | refine wp_op (o := .pick _ _ _) rfl ?_ | refine wp_op (o := .extract _ _) rfl ?_)
  refine wp_callN H (ord1 (v := d) (H.roSl (by repeat (first | exact List.Mem.head _ | apply List.Mem.tail)))) fun y3 S16 H => ?_
  repeat (first | refine wp_gop_t ?_ | refine wp_gop_f rfl ?_ | refine wp_gop_u ?_ | refine wp_gcall_t ?_ | refine wp_gcall_f rfl ?_ | refine wp_gcall_u ?_ | refine wp_ite_t ?_ | refine wp_ite_f ?_ | refine wp_faddr ?_ | refine wp_nilchk ?_ | refine wp_op (o := .mv _) rfl ?_ | refine wp_op (o := .pick _ _ _) rfl ?_ | refine wp_op (o := .extract _ _) rfl ?_)
  refine wp_callN H (ord2 (v := v) (H.roSl (by repeat (first | exact List.Mem.head _ | apply List.Mem.tail)))) fun y4 S17 H => ?_
  repeat (first | refine wp_gop_t ?_ | refine wp_gop_f rfl ?_ | refine wp_gop_u ?_ | refine wp_gcall_t ?_ | refine wp_gcall_f rfl ?_ | refine wp_gcall_u ?_ | refine wp_ite_t ?_ | refine wp_ite_f ?_ | refine wp_faddr ?_ | refine wp_nilchk ?_ | refine wp_op (o := .mv _) rfl ?_ | refine wp_op (o := .pick _ _ _) rfl ?_ | refine wp_op (o := .extract _ _) rfl ?_)
  refine wp_callV H (sameN_ok (l := O) (H.ownSl (n := 1) rfl) (H.ownSl (n := 0) rfl) (by omega)) fun S18 H => ?_
  repeat (first | refine wp_gop_t ?_ | refine wp_gop_f rfl ?_ | refine wp_gop_u ?_ | refine wp_gcall_t ?_ | refine wp_gcall_f rfl ?_ | refine wp_gcall_u ?_ | refine wp_ite_t ?_ | refine wp_ite_f ?_ | refine wp_faddr ?_ | refine wp_nilchk ?_ | refine wp_op (o := .mv _) rfl ?_ | refine wp_op (o := .pick _ _ _) rfl ?_ | refine wp_op (o := .extract _ _) rfl ?_)
  refine wp_callV H (sameT_ok (v := d) (v' := v) (l := l) (H.roSl (by repeat (first | exact List.Mem.head _ | apply List.Mem.tail))) (H.roSl (by repeat (first | exact List.Mem.head _ | apply List.Mem.tail))) (by omega)) fun S19 H => ?_
  repeat (first | refine wp_gop_t ?_ | refine wp_gop_f rfl ?_ | refine wp_gop_u ?_ | refine wp_gcall_t ?_ | refine wp_gcall_f rfl ?_ | refine wp_gcall_u ?_ | refine wp_ite_t ?_ | refine wp_ite_f ?_ | refine wp_faddr ?_ | refine wp_nilchk ?_ | refine wp_op (o := .mv _) rfl ?_ | refine wp_op (o := .pick _ _ _) rfl ?_ | refine wp_op (o := .extract _ _) rfl ?_)
  refine awake_ok ?_
  repeat (first | refine wp_gop_t ?_ | refine wp_gop_f rfl ?_ | refine wp_gop_u ?_ | refine wp_gcall_t ?_ | refine wp_gcall_f rfl ?_ | refine wp_gcall_u ?_ | refine wp_ite_t ?_ | refine wp_ite_f ?_ | refine wp_faddr ?_ | refine wp_nilchk ?_ | refine wp_op (o := .mv _) rfl ?_ | refine wp_op (o := .pick _ _ _) rfl ?_ | refine wp_op (o := .extract _ _) rfl ?_)
  exact wp_ret ⟨rfl, rfl⟩
end Go.Abs
