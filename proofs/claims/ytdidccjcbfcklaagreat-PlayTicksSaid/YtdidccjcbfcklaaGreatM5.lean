/- functions of this cut: what they compute, in the abstract machine. Conditions: stated in each theorem -/
import Derived.Test.YtdidccjcbfcklaaGreatM4
import Derived.Test.YtdidccjcbfcklaaGreatM0
set_option linter.unusedVariables false
set_option linter.unusedSectionVars false
set_option linter.unusedSimpArgs false
set_option linter.unusedSectionVars false
namespace Go.Abs.X
variable [Ek]
open Go.Proofs
set_option maxRecDepth 100000
set_option linter.unusedVariables false
/-! ### where parts lie: what fits -/
section
variable {S : AH} {a b n k h : Int}
theorem sizedS_ok (h1 : 1 ≤ n ∧ n ≤ 4096) : wpC EM (.fn (.func 168) [] []) [.agg [I a, I b, I n]] S fun r S' => r = B true ∧ Grows S S' := by
  refine wpC_fn (b := Tryz.a168) rfl rfl ?_
  have H : Cx S [] S [] [] := Cx.enter (by simp)
  rw [Tryz.u168]
  repeat' (first | (first|refine zA ?_|refine zB rfl ?_|refine zC ?_|refine zD ?_|refine zE rfl ?_|refine zF ?_|refine zG ?_|refine zH ?_|refine zI ?_|refine zJ ?_|refine zK ?_|refine zL rfl ?_|refine zN rfl ?_) | refine wp_bind ?_ | refine wp_box (by assumption) rfl fun _ _ _ => ?_ | refine wp_tmpN (by assumption) rfl rfl rfl fun _ _ _ => ?_ | refine wp_ld (by assumption) (by repeat (first | exact List.Mem.head _ | apply List.Mem.tail)) rfl ?_ | refine wp_ldn (by assumption) (by repeat (first | exact List.Mem.head _ | apply List.Mem.tail)) rfl ?_ | refine wp_notT ?_ | refine wp_notF ?_ | (refine wp_ret ?_; show wp EM _ _ _) | refine wp_lss (fun _ => ?_) (fun _ => ?_) | refine wp_gtr (fun _ => ?_) (fun _ => ?_) | refine wp_leq (fun _ => ?_) (fun _ => ?_) | refine wp_geq (fun _ => ?_) (fun _ => ?_) | refine wp_eql (fun _ => ?_) (fun _ => ?_) | refine wp_neq (fun _ => ?_) (fun _ => ?_) | refine wp_add64 (by omega) (by omega) ?_ | refine wp_sub64 (by omega) (by omega) ?_)
  all_goals first | (exfalso; omega) | exact wp_ret ⟨rfl, rfl, Cx.grows (by assumption)⟩
theorem sizedE_ok (h1 : 1 ≤ n ∧ n ≤ 64) : wpC EM (.fn (.func 254) [] []) [.agg [I a, I b, I n]] S fun r S' => r = B true ∧ Grows S S' := by
  refine wpC_fn (b := Tryz.a254) rfl rfl ?_
  have H : Cx S [] S [] [] := Cx.enter (by simp)
  rw [Tryz.u254]
  repeat' (first | (first|refine zA ?_|refine zB rfl ?_|refine zC ?_|refine zD ?_|refine zE rfl ?_|refine zF ?_|refine zG ?_|refine zH ?_|refine zI ?_|refine zJ ?_|refine zK ?_|refine zL rfl ?_|refine zN rfl ?_) | refine wp_bind ?_ | refine wp_box (by assumption) rfl fun _ _ _ => ?_ | refine wp_tmpN (by assumption) rfl rfl rfl fun _ _ _ => ?_ | refine wp_ld (by assumption) (by repeat (first | exact List.Mem.head _ | apply List.Mem.tail)) rfl ?_ | refine wp_ldn (by assumption) (by repeat (first | exact List.Mem.head _ | apply List.Mem.tail)) rfl ?_ | refine wp_notT ?_ | refine wp_notF ?_ | (refine wp_ret ?_; show wp EM _ _ _) | refine wp_lss (fun _ => ?_) (fun _ => ?_) | refine wp_gtr (fun _ => ?_) (fun _ => ?_) | refine wp_leq (fun _ => ?_) (fun _ => ?_) | refine wp_geq (fun _ => ?_) (fun _ => ?_) | refine wp_eql (fun _ => ?_) (fun _ => ?_) | refine wp_neq (fun _ => ?_) (fun _ => ?_) | refine wp_add64 (by omega) (by omega) ?_ | refine wp_sub64 (by omega) (by omega) ?_)
  all_goals first | (exfalso; omega) | exact wp_ret ⟨rfl, rfl, Cx.grows (by assumption)⟩
theorem sizedG_ok (h1 : 1 ≤ n ∧ n ≤ 32) : wpC EM (.fn (.func 115) [] []) [.agg [I a, I n]] S fun r S' => r = B true ∧ Grows S S' := by
  refine wpC_fn (b := Tryz.a115) rfl rfl ?_
  have H : Cx S [] S [] [] := Cx.enter (by simp)
  rw [Tryz.u115]
  repeat' (first | (first|refine zA ?_|refine zB rfl ?_|refine zC ?_|refine zD ?_|refine zE rfl ?_|refine zF ?_|refine zG ?_|refine zH ?_|refine zI ?_|refine zJ ?_|refine zK ?_|refine zL rfl ?_|refine zN rfl ?_) | refine wp_bind ?_ | refine wp_box (by assumption) rfl fun _ _ _ => ?_ | refine wp_tmpN (by assumption) rfl rfl rfl fun _ _ _ => ?_ | refine wp_ld (by assumption) (by repeat (first | exact List.Mem.head _ | apply List.Mem.tail)) rfl ?_ | refine wp_ldn (by assumption) (by repeat (first | exact List.Mem.head _ | apply List.Mem.tail)) rfl ?_ | refine wp_notT ?_ | refine wp_notF ?_ | (refine wp_ret ?_; show wp EM _ _ _) | refine wp_lss (fun _ => ?_) (fun _ => ?_) | refine wp_gtr (fun _ => ?_) (fun _ => ?_) | refine wp_leq (fun _ => ?_) (fun _ => ?_) | refine wp_geq (fun _ => ?_) (fun _ => ?_) | refine wp_eql (fun _ => ?_) (fun _ => ?_) | refine wp_neq (fun _ => ?_) (fun _ => ?_) | refine wp_add64 (by omega) (by omega) ?_ | refine wp_sub64 (by omega) (by omega) ?_)
  all_goals first | (exfalso; omega) | exact wp_ret ⟨rfl, rfl, Cx.grows (by assumption)⟩
theorem sizedJ_ok {c1 c2 c3 c4 : Int} (h1 : 1 ≤ n ∧ n ≤ 64) : wpC EM (.fn (.func 102) [] []) [.agg [I c1, I c2, I c3, I c4, I n]] S fun r S' => r = B true ∧ Grows S S' := by
  refine wpC_fn (b := Tryz.a102) rfl rfl ?_
  have H : Cx S [] S [] [] := Cx.enter (by simp)
  rw [Tryz.u102]
  repeat' (first | (first|refine zA ?_|refine zB rfl ?_|refine zC ?_|refine zD ?_|refine zE rfl ?_|refine zF ?_|refine zG ?_|refine zH ?_|refine zI ?_|refine zJ ?_|refine zK ?_|refine zL rfl ?_|refine zN rfl ?_) | refine wp_bind ?_ | refine wp_box (by assumption) rfl fun _ _ _ => ?_ | refine wp_tmpN (by assumption) rfl rfl rfl fun _ _ _ => ?_ | refine wp_ld (by assumption) (by repeat (first | exact List.Mem.head _ | apply List.Mem.tail)) rfl ?_ | refine wp_ldn (by assumption) (by repeat (first | exact List.Mem.head _ | apply List.Mem.tail)) rfl ?_ | refine wp_notT ?_ | refine wp_notF ?_ | (refine wp_ret ?_; show wp EM _ _ _) | refine wp_lss (fun _ => ?_) (fun _ => ?_) | refine wp_gtr (fun _ => ?_) (fun _ => ?_) | refine wp_leq (fun _ => ?_) (fun _ => ?_) | refine wp_geq (fun _ => ?_) (fun _ => ?_) | refine wp_eql (fun _ => ?_) (fun _ => ?_) | refine wp_neq (fun _ => ?_) (fun _ => ?_) | refine wp_add64 (by omega) (by omega) ?_ | refine wp_sub64 (by omega) (by omega) ?_)
  all_goals first | (exfalso; omega) | exact wp_ret ⟨rfl, rfl, Cx.grows (by assumption)⟩
theorem sizedA_ok {c1 c2 c3 c4 c5 : Int} (h1 : 1 ≤ n ∧ n ≤ 4096) : wpC EM (.fn (.func 253) [] []) [.agg [I c1, I c2, I n, I c3, I c4, I c5]] S fun r S' => r = B true ∧ Grows S S' := by
  refine wpC_fn (b := Tryz.a253) rfl rfl ?_
  have H : Cx S [] S [] [] := Cx.enter (by simp)
  rw [Tryz.u253]
  repeat' (first | (first|refine zA ?_|refine zB rfl ?_|refine zC ?_|refine zD ?_|refine zE rfl ?_|refine zF ?_|refine zG ?_|refine zH ?_|refine zI ?_|refine zJ ?_|refine zK ?_|refine zL rfl ?_|refine zN rfl ?_) | refine wp_bind ?_ | refine wp_box (by assumption) rfl fun _ _ _ => ?_ | refine wp_tmpN (by assumption) rfl rfl rfl fun _ _ _ => ?_ | refine wp_ld (by assumption) (by repeat (first | exact List.Mem.head _ | apply List.Mem.tail)) rfl ?_ | refine wp_ldn (by assumption) (by repeat (first | exact List.Mem.head _ | apply List.Mem.tail)) rfl ?_ | refine wp_notT ?_ | refine wp_notF ?_ | (refine wp_ret ?_; show wp EM _ _ _) | refine wp_lss (fun _ => ?_) (fun _ => ?_) | refine wp_gtr (fun _ => ?_) (fun _ => ?_) | refine wp_leq (fun _ => ?_) (fun _ => ?_) | refine wp_geq (fun _ => ?_) (fun _ => ?_) | refine wp_eql (fun _ => ?_) (fun _ => ?_) | refine wp_neq (fun _ => ?_) (fun _ => ?_) | refine wp_add64 (by omega) (by omega) ?_ | refine wp_sub64 (by omega) (by omega) ?_)
  all_goals first | (exfalso; omega) | exact wp_ret ⟨rfl, rfl, Cx.grows (by assumption)⟩
end
end Go.Abs.X
set_option linter.unusedSectionVars false
namespace Go.Abs.X
variable [Ek]
open Go.Proofs
set_option maxRecDepth 100000
set_option linter.unusedVariables false
/-! ### cells that are taken -/
section
variable {M : Mach} {B0 S : AH} {W : List Nat} {own : List Own} {ro : List Fct} {Q : Post} {k : AV → AC} {kc : AC}
theorem wp_litsG (H : Cx B0 W S own ro) {es n : Nat} {z : List AV} {ps : List (Nat × Nat × AV)} (l : List (List AV)) (he : fillP (repZero z n) ps = some l.flatten) (hn : l.length = n) (hz : z.length = es) (hes : ∀ x ∈ l, x.length = es)
    (h : ∀ v S1, Cx B0 W S1 (.sl v es l :: own) ro → wp M (k v) S1 Q) : wp M (.op (.bslice es n z ps) k) S Q := by
  have hf : l.flatten.length = n * es := by rw [flatten_length hes, hn]
  refine wp_op (v := .sl S.next 0 n n) (S1 := S.new (.row l.flatten)) ?_ (h _ _ (H.addOwn (Grows.new S _) (.inr ⟨S.next, 0, l.flatten, .inl ⟨n, by omega, by omega, by rw [hn]⟩, get_new_same _ _, ?_, hes⟩) ?_))
  · show nBslice es n z ps S = _
    unfold nBslice
    rw [he]
    have e : (Nat.beq (lenL l.flatten) (Nat.mul n es) && Nat.beq (lenL z) es) = true := by
      rw [lenL_eq, lenL_eq, hz, hf, show Nat.mul n es = n * es from rfl, Nat.beq_refl, Nat.beq_refl]; rfl
    simp only [e]
    rfl
  · rw [List.drop_zero, hn, ← hf, List.take_length]
  · intro id hid
    simp only [Own.ids, vids, List.mem_singleton] at hid
    subst hid
    exact ⟨Nat.le_refl _, by simp [AH.new]⟩
theorem ints_at {l : List Int} {i : Nat} {a : Int} (h : l[i]? = some a) : (ints l)[i]? = some [I a] := by unfold ints; rw [List.getElem?_map, h]; rfl
end
/-! ### rows and pairs -/
end Go.Abs.X
set_option linter.unusedSectionVars false
namespace Go.Abs.X
variable [Ek]
open Go.Proofs
set_option maxRecDepth 100000
set_option linter.unusedVariables false
/-! ### towers: what fits -/
def toL (N C h : Nat) (lim : Int) : To := { nd := 6 + 2 * N + C + h, hd := 6 + 2 * N + C, ht := h, ftop := 0, flinks := 1, fsize := N, gens := 1 + N, worn := 1 + 2 * N, lim := lim, eat := 2 + 2 * N, pins := 3 + 2 * N, cores := C, tops := 3 + 2 * N + C }
def To.lb (t : To) : List AV := [I t.ftop, I t.flinks, I t.fsize, I t.gens, I t.worn, I t.lim, I t.eat, I t.pins, I t.cores, I t.tops]
def To.ab (t : To) : List AV := [I t.ftop, I t.flinks, I t.fsize, I t.gens, I t.worn, I t.lim]
theorem take_snoc {L : List Int} {i : Nat} {a : Int} (ha : L[i]? = some a) : L.take (i + 1) = L.take i ++ [a] := by rw [List.take_add_one, ha]; rfl
section
variable {B0 S : AH} {W : List Nat} {own : List Own} {ro : List Fct} {Q : Post} {k : AV → AC} {N C h K : Nat} {lim : Int}
end
end Go.Abs.X
set_option linter.unusedSectionVars false
namespace Go.Abs.X
variable [Ek]
open Go.Proofs
set_option maxRecDepth 100000
set_option linter.unusedVariables false
section
variable {B0 S : AH} {W : List Nat} {own : List Own} {ro : List Fct} {Q : Post} {k : AV → AC} {N C h K : Nat} {lim : Int}
/-! ### rows that are counted -/
end
end Go.Abs.X
set_option linter.unusedSectionVars false
namespace Go.Abs.X
variable [Ek]
open Go.Proofs
set_option maxRecDepth 100000
set_option linter.unusedVariables false
section
variable {B0 S : AH} {W : List Nat} {own : List Own} {ro : List Fct} {Q : Post} {k : AV → AC} {N C h K : Nat} {lim : Int}
theorem kt3 : EM.P.underlying 3 = some (.int .i64) := by kernel_rfl
/-! ### towers -/
theorem toL_ok (hN : 1 ≤ N ∧ N ≤ 128) (hC : C ≤ 64) (hh : 1 ≤ h ∧ h ≤ 4) : (toL N C h lim).ok := by
  unfold To.ok toL
  dsimp only
  omega
end
end Go.Abs.X
set_option linter.unusedSectionVars false
namespace Go.Abs.X
variable [Ek]
open Go.Proofs
set_option maxRecDepth 100000
set_option linter.unusedVariables false
section
variable {B0 S : AH} {W : List Nat} {own : List Own} {ro : List Fct} {Q : Post} {k : AV → AC} {N C h n J R K : Nat} {lim : Int}
/-! ### jobs -/
end
end Go.Abs.X
set_option linter.unusedSectionVars false
namespace Go.Abs.X
variable [Ek]
open Go.Proofs
set_option maxRecDepth 100000
set_option linter.unusedVariables false
open Tsk (Tk tks tchk)
/-! ### the executive's rows -/
def exV (N C h n J R : Nat) (lim g j m r : Int) : Ex := { t := toL N C h lim, gfirst := g, gmany := n, jst := j, jkeys := j + J, jtop := j + 2 * J, jlinks := j + 2 * J + 1, jsize := J, mfirst := m, mcores := C, mroom := R, rruns := r, rflags := r + C, rcores := C, own := r + 2 * C, seq := r + 3 * C }
structure Lx (N C h n J R : Nat) (lim g j m r : Int) : Prop where
  hN : 1 ≤ N ∧ N ≤ 128
  hC : 1 ≤ C ∧ C ≤ 64
  hh : 1 ≤ h ∧ h ≤ 4
  hn : 1 ≤ n ∧ n ≤ 32
  hJ : 1 ≤ J ∧ J ≤ 64
  hR : 1 ≤ R ∧ R ≤ 16
  hl : 1 ≤ lim ∧ lim ≤ 4294967295
  hP : N * (4 + h) ≤ 1024
  hM : C * (R + 2) ≤ 1152
  hg : g = 6 + 2 * N + C + h + (N * (4 + h) : Nat)
  hj : j = g + n
  hm : m = j + 3 * J + 1
  hr : r = m + (C * (R + 2) : Nat)
def pos (l : List Nat) (i : Nat) : Nat := (l.take i).sum
def hrows (N C h n J R : Nat) (g j m r : Int) : List (Int × Int) := [(0, 1), (1, N), (1 + N, N), (1 + 2 * N, 1), (2 + 2 * N, 1), (3 + 2 * N, C), (3 + 2 * N + C, 3), (6 + 2 * N + C, h), (6 + 2 * N + C + h, N * (4 + h)), (g, n), (j, J), (j + J, J), (j + 2 * J, 1), (j + 2 * J + 1, J), (m, C * (R + 2)), (r, C), (r + C, C), (r + 2 * C, C), (r + 3 * C, 1)]
section
variable {B0 S : AH} {W : List Nat} {own : List Own} {ro : List Fct} {Q : Post} {k : AV → AC} {N C h n J R K : Nat} {lim g j m r : Int} {u : AV} {l : List Tk}
end
end Go.Abs.X
set_option linter.unusedSectionVars false
namespace Go.Abs.X
variable [Ek]
open Go.Proofs
set_option maxRecDepth 100000
set_option linter.unusedVariables false
theorem wrapU {n : Nat} (h : n < 18446744073709551616) : wrapF .u64 (n : Int) = (n : Int) := by
  rw [wrapF_eq]
  show (n : Int) % 18446744073709551616 = n
  omega
section
variable {M : Mach} {S : AH} {Q : Post} {k : AV → AC}
theorem wp_shlU {κ : IntKind} {n s : Nat} (hs : s ≤ 64) (hn : n * 2 ^ s < 18446744073709551616) (h : wp M (k (U ((n * 2 ^ s : Nat) : Int))) S Q) : wp M (.op (.bin .shl (U (n : Int)) (Z κ (s : Int))) k) S Q := wp_op (v := U ((n * 2 ^ s : Nat) : Int)) (by
  show pur (if ltF (s : Int) 0 then none else some (AV.sc (.int .u64 (wrapF .u64 ((n : Int) * 2 ^ (min (s : Int).toNat IntKind.u64.bits)))))) S = _
  rw [ltF_eq, if_neg (by simp)]
  have e : min (s : Int).toNat IntKind.u64.bits = s := by show min (s : Int).toNat 64 = s; omega
  rw [e]
  have e2 : (n : Int) * 2 ^ s = ((n * 2 ^ s : Nat) : Int) := by simp
  rw [e2, wrapU hn]; rfl) h
theorem wp_orU {a b : Nat} (ha : a < 18446744073709551616) (hb : b < 18446744073709551616) (h : wp M (k (U ((a ||| b : Nat) : Int))) S Q) : wp M (.op (.bin .or (U (a : Int)) (U (b : Int))) k) S Q := wp_op (v := U ((a ||| b : Nat) : Int)) (by
  show pur (bOr (U (a : Int)) (U (b : Int))) S = _
  unfold bOr
  simp only [int2, asInt, vInt, kindEq_refl]
  have e : (BitVec.ofInt IntKind.u64.bits (a : Int) ||| BitVec.ofInt IntKind.u64.bits (b : Int)).toNat = a ||| b := by
    rw [BitVec.toNat_or]
    have x : ∀ n : Nat, n < 18446744073709551616 → (BitVec.ofInt IntKind.u64.bits (n : Int)).toNat = n := by
      intro n hn
      show (BitVec.ofInt 64 (n : Int)).toNat = n
      rw [BitVec.ofInt_natCast, BitVec.toNat_ofNat]
      exact Nat.mod_eq_of_lt hn
    rw [x a ha, x b hb]
  have hor : a ||| b < 18446744073709551616 := Nat.or_lt_two_pow (n := 64) ha hb
  show pur (some (AV.sc (.int .u64 (wrapF .u64 ((BitVec.ofInt IntKind.u64.bits (a : Int) ||| BitVec.ofInt IntKind.u64.bits (b : Int)).toNat : Nat))))) S = _
  rw [e, wrapU hor]; rfl) h
end
theorem or_hi {a b i : Nat} (hb : b < 2 ^ i) : a * 2 ^ i ||| b = a * 2 ^ i + b := by
  have := Nat.shiftLeft_add_eq_or_of_lt hb a
  rw [Nat.shiftLeft_eq] at this
  exact this.symm
theorem or_lo {a b i : Nat} (hb : b < 2 ^ i) : b ||| a * 2 ^ i = a * 2 ^ i + b := by rw [Nat.or_comm]; exact or_hi hb

def inP (t : Int × Int × Int) : Prop := t.2.1 ≤ t.1 ∧ t.1 ≤ t.2.2
instance (t : Int × Int × Int) : Decidable (inP t) := by unfold inP; infer_instance
def prs3 (l : List (Int × Int × Int)) : List (List AV) := l.map fun t => [I t.1, I t.2.1, I t.2.2]
theorem prs3_len (l : List (Int × Int × Int)) : (prs3 l).length = l.length := List.length_map ..
theorem prs3_get {l : List (Int × Int × Int)} {i : Nat} (hi : i < l.length) : (prs3 l)[i]? = some [I l[i].1, I l[i].2.1, I l[i].2.2] := by simp [prs3, hi]
theorem within_ok {S : AH} {v : AV} {l : List (Int × Int × Int)} (hv : RoSl S v 3 (prs3 l)) (hl : l.length < 1000) : wpC EM (.fn (.func 271) [] []) [v] S fun r S' => r = B (decide (∀ t ∈ l, inP t)) ∧ Grows S S' := by
  refine wpC_fn (b := Tryz.a271) rfl rfl ?_
  have H := Cx.ro1 hv
  rw [Tryz.u271]
  refine wp_len H (by repeat (first | exact List.Mem.head _ | apply List.Mem.tail)) ?_
  rw [prs3_len]
  refine wp_bind (wp_loop (wpL_for l.length (fun i vs S1 => ∃ u : AV, vs = [I (i : Int), u] ∧ (∀ t ∈ l.take i, inP t) ∧ Cx S [] S1 [] [.sl v 3 (prs3 l)]) ?_ ?_ ⟨_, rfl, by simp, H⟩))
  · rintro i vs S1 hlt ⟨u, rfl, hpre, H⟩
    refine wp_lss_t (by omega) ?_
    try(refine zz ?_;(repeat constructor);intro _)
    refine wp_bind ?_
    refine wp_saddr (i := i) H (by repeat (first | exact List.Mem.head _ | apply List.Mem.tail)) (prs3_get hlt) fun p off H => ?_
    refine wp_loada H (cs := [I l[i].1, I l[i].2.1, I l[i].2.2]) (by repeat (first | exact List.Mem.head _ | apply List.Mem.tail)) (Nat.le_of_ble_eq_true rfl) ?_
    refine wp_alloc H fun b S3 H => ?_
    refine wp_store H 0 rfl rfl rfl (Nat.le_of_ble_eq_true rfl) fun S4 H => ?_
    replace H : Cx S [] S4 [] [.pt b 0 [I l[i].1, I l[i].2.1, I l[i].2.2], .pt p off [I l[i].1, I l[i].2.1, I l[i].2.2], .sl v 3 (prs3 l)] := H.freeze (i := 0) (c := [I l[i].1, I l[i].2.1, I l[i].2.2]) rfl
    try(refine zz ?_;(repeat constructor);intro _)
    refine wp_load1 H (cs := [I l[i].1, I l[i].2.1, I l[i].2.2]) (by repeat (first | exact List.Mem.head _ | apply List.Mem.tail)) rfl ?_
    try(refine zz ?_;(repeat constructor);intro _)
    refine wp_load1 H (cs := [I l[i].1, I l[i].2.1, I l[i].2.2]) (by repeat (first | exact List.Mem.head _ | apply List.Mem.tail)) rfl ?_
    refine wp_lss (fun h1 => ?_) (fun h1 => ?_)
    · try(refine zz ?_;(repeat constructor);intro _)
      refine wp_ret (.inr ⟨by simp, rfl, ?_, H.grows⟩)
      rw [decide_eq_false (fun h => by have := (h l[i] (List.getElem_mem hlt)).1; omega)]; rfl
    · try(refine zz ?_;(repeat constructor);intro _)
      refine wp_load1 H (cs := [I l[i].1, I l[i].2.1, I l[i].2.2]) (by repeat (first | exact List.Mem.head _ | apply List.Mem.tail)) rfl ?_
      try(refine zz ?_;(repeat constructor);intro _)
      refine wp_load1 H (cs := [I l[i].1, I l[i].2.1, I l[i].2.2]) (by repeat (first | exact List.Mem.head _ | apply List.Mem.tail)) rfl ?_
      try(refine zz ?_;(repeat constructor);intro _)
      refine wp_gtr (fun h2 => ?_) (fun h2 => ?_)
      · try(refine zz ?_;(repeat constructor);intro _)
        refine wp_ret (.inr ⟨by simp, rfl, ?_, H.grows⟩)
        rw [decide_eq_false (fun h => by have := (h l[i] (List.getElem_mem hlt)).2; omega)]; rfl
      · try(refine zz ?_;(repeat constructor);intro _)
        refine wp_ret ?_
        show wp EM _ _ _
        refine wp_add64 (by omega) (by omega) (wp_ret (.inl ⟨rfl, _, rfl, fun t ht => ?_, H.tl.tl⟩))
        rw [List.take_succ_eq_append_getElem hlt, List.mem_append, List.mem_singleton] at ht
        rcases ht with ht | rfl
        · exact hpre t ht
        · exact ⟨h1, h2⟩
  · rintro vs S1 ⟨u, rfl, hpre, H⟩
    refine wp_lss_f (by omega) ?_
    try(refine zz ?_;(repeat constructor);intro _)
    refine wp_ret ⟨by simp, wp_ret ⟨rfl, ?_, H.grows⟩⟩
    rw [List.take_length] at hpre
    rw [decide_eq_true hpre]; rfl
theorem with_ok {S : AH} {w n s m : Nat} (hw : w < 18446744073709551616) (hn : n * 2 ^ s < 18446744073709551616) (hs : s ≤ 64) (hn0 : n < 18446744073709551616) : wpC EM (.fn (.func 344) [] []) [U (w : Int), .agg [I (s : Int), I (m : Int)], I (n : Int)] S fun r S' => r = U ((w ||| n * 2 ^ s : Nat) : Int) ∧ Grows S S' := by
  refine wpC_fn (b := Tryz.a344) rfl rfl ?_
  have H : Cx S [] S [] [] := Cx.enter (by simp)
  rw [Tryz.u344]
  refine wp_box H rfl fun b S1 H => ?_
  replace H : Cx S [] S1 [] [.pt b 0 [I (s : Int), I (m : Int)]] := H
  refine wp_convU n hn0 ?_
  try(refine zz ?_;(repeat constructor);intro _)
  refine wp_load1 H (cs := [I (s : Int), I (m : Int)]) (by repeat (first | exact List.Mem.head _ | apply List.Mem.tail)) rfl ?_
  refine wp_shlU hs hn ?_
  refine wp_orU hw hn ?_
  exact wp_ret ⟨rfl, rfl, H.grows⟩
theorem lay2_ok {S : AH} {v v' : AV} {r s : Nat} (hv : RoSl S v 2 [[I 0, I 16], [I 16, I 48]]) (hv' : RoSl S v' 1 [[I (r : Int)], [I (s : Int)]]) (hr : r < 65536) (hs : s < 281474976710656) :
    wpC EM (.fn (.func 273) [] []) [v, v'] S fun x S' => x = U ((s * 65536 + r : Nat) : Int) ∧ Grows S S' := by
  refine wpC_fn (b := Tryz.a273) rfl rfl ?_
  have H := Cx.ro2 hv hv'
  rw [Tryz.u273]
  refine wp_len (v := v) (es := 2) (L := [[I 0, I 16], [I 16, I 48]]) H (by repeat (first | exact List.Mem.head _ | apply List.Mem.tail)) ?_
  refine wp_bind (wp_loop (wpL_for 2 (fun i vs S1 => vs = [I (i : Int), U (((if i = 0 then 0 else if i = 1 then r else s * 65536 + r) : Nat) : Int)] ∧ Cx S [] S1 [] [.sl v 2 [[I 0, I 16], [I 16, I 48]], .sl v' 1 [[I (r : Int)], [I (s : Int)]]]) ?_ ?_ ⟨rfl, H⟩))
  · rintro i vs S1 hlt ⟨rfl, H⟩
    refine wp_lss_t (by show (i : Int) < 2; omega) ?_
    try(refine zz ?_;(repeat constructor);intro _)
    refine wp_bind ?_
    have hcase : i = 0 ∨ i = 1 := by omega
    rcases hcase with rfl | rfl
    · refine wp_saddr (v := v) (L := [[I 0, I 16], [I 16, I 48]]) (i := 0) (x := [I 0, I 16]) H (by repeat (first | exact List.Mem.head _ | apply List.Mem.tail)) rfl fun q off H => ?_
      refine wp_loada H (cs := [I 0, I 16]) (by repeat (first | exact List.Mem.head _ | apply List.Mem.tail)) (Nat.le_of_ble_eq_true rfl) ?_
      refine wp_alloc H fun b S3 H => ?_
      refine wp_store H 0 rfl rfl rfl (Nat.le_of_ble_eq_true rfl) fun S4 H => ?_
      replace H := H.freeze (i := 0) (c := [I 0, I 16]) rfl
      refine wp_loada H (cs := [I 0, I 16]) (by repeat (first | exact List.Mem.head _ | apply List.Mem.tail)) (Nat.le_of_ble_eq_true rfl) ?_
      refine wp_saddr (v := v') (L := [[I (r : Int)], [I (s : Int)]]) (i := 0) (x := [I (r : Int)]) H (by repeat (first | exact List.Mem.head _ | apply List.Mem.tail)) rfl fun q' off' H => ?_
      refine wp_load0 H (cs := [I (r : Int)]) (by repeat (first | exact List.Mem.head _ | apply List.Mem.tail)) rfl ?_
      refine wp_callV H (with_ok (w := 0) (n := r) (s := 0) (m := 16) (by omega) (by omega) (by omega) (by omega)) fun S5 H => ?_
      refine wp_ret ?_
      show wp EM _ _ _
      refine wp_add64 (by omega) (by omega) (wp_ret (.inl ⟨rfl, ?_, H.dropRo (by simp)⟩))
      have e : 0 ||| r * 2 ^ 0 = r := by simp
      rw [e]; rfl
    · refine wp_saddr (v := v) (L := [[I 0, I 16], [I 16, I 48]]) (i := 1) (x := [I 16, I 48]) H (by repeat (first | exact List.Mem.head _ | apply List.Mem.tail)) rfl fun q off H => ?_
      refine wp_loada H (cs := [I 16, I 48]) (by repeat (first | exact List.Mem.head _ | apply List.Mem.tail)) (Nat.le_of_ble_eq_true rfl) ?_
      refine wp_alloc H fun b S3 H => ?_
      refine wp_store H 0 rfl rfl rfl (Nat.le_of_ble_eq_true rfl) fun S4 H => ?_
      replace H := H.freeze (i := 0) (c := [I 16, I 48]) rfl
      refine wp_loada H (cs := [I 16, I 48]) (by repeat (first | exact List.Mem.head _ | apply List.Mem.tail)) (Nat.le_of_ble_eq_true rfl) ?_
      refine wp_saddr (v := v') (L := [[I (r : Int)], [I (s : Int)]]) (i := 1) (x := [I (s : Int)]) H (by repeat (first | exact List.Mem.head _ | apply List.Mem.tail)) rfl fun q' off' H => ?_
      refine wp_load0 H (cs := [I (s : Int)]) (by repeat (first | exact List.Mem.head _ | apply List.Mem.tail)) rfl ?_
      refine wp_callV H (with_ok (w := r) (n := s) (s := 16) (m := 48) (by omega) (by omega) (by omega) (by omega)) fun S5 H => ?_
      refine wp_ret ?_
      show wp EM _ _ _
      refine wp_add64 (by omega) (by omega) (wp_ret (.inl ⟨rfl, ?_, H.dropRo (by simp)⟩))
      rw [or_lo (by omega)]; rfl
  · rintro vs S1 ⟨rfl, H⟩
    refine wp_lss_f (by show (2 : Int) ≤ ((2 : Nat) : Int); omega) ?_
    try(refine zz ?_;(repeat constructor);intro _)
    refine wp_ret ⟨by simp, wp_ret ⟨rfl, rfl, H.grows⟩⟩
def topTab : List AV := [I 0, I 16, I 16, I 48]
theorem tops_ok {S : AH} : wpC EM (.fn (.func 331) [] []) [] S fun r S' => r = .agg topTab ∧ Grows S S' := by
  refine wpC_fn (b := Tryz.a331) rfl rfl ?_
  have H : Cx S [] S [] [] := Cx.enter (by simp)
  rw [Tryz.u331]
  refine wp_fin ?_
  refine wp_alloc H fun b S1 H => ?_
  refine wp_op (v := .agg [I 0, I 16]) rfl ?_
  refine wp_op (v := .agg [I 16, I 48]) rfl ?_
  refine wp_op (v := .agg topTab) rfl ?_
  refine wp_store (v := .agg topTab) H 0 rfl rfl rfl (Nat.le_of_ble_eq_true rfl) fun S2 H => ?_
  refine wp_ret ⟨.inr rfl, ?_⟩
  refine wp_loadoa (n := 4) H 0 rfl (Nat.le_of_ble_eq_true rfl) ?_
  exact wp_ret ⟨rfl, rfl, H.grows⟩
theorem putTop_ok {S : AH} {i t : Int} (hi : -1 ≤ i ∧ i ≤ 65534) (ht : 0 ≤ t ∧ t ≤ 281474976710655) : wpC EM (.fn (.func 256) [] []) [.agg [I i, I t]] S fun v S' => v = .tup [U (t * 65536 + (i + 1)), I 0] ∧ Grows S S' := by
  refine wpC_fn (b := Tryz.a256) rfl rfl ?_
  have H : Cx S [] S [] [] := Cx.enter (by simp)
  rw [Tryz.u256]
  refine wp_box H rfl fun b S1 H => ?_
  replace H : Cx S [] S1 [] [.pt b 0 [I i, I t]] := H
  try(refine zz ?_;(repeat constructor);intro _)
  refine wp_load1 H (cs := [I i, I t]) (by repeat (first | exact List.Mem.head _ | apply List.Mem.tail)) rfl ?_
  refine wp_op (v := .agg [I i, I (-1), I 65534]) rfl ?_
  try(refine zz ?_;(repeat constructor);intro _)
  refine wp_load1 H (cs := [I i, I t]) (by repeat (first | exact List.Mem.head _ | apply List.Mem.tail)) rfl ?_
  refine wp_op (v := .agg [I t, I 0, I 281474976710655]) rfl ?_
  refine wp_litsG H (prs3 [(i, -1, 65534), (t, 0, 281474976710655)]) rfl rfl rfl (by simp [prs3]) fun w S2 H => ?_
  replace H := H.toRo (i := 0) rfl
  refine wp_callV H (within_ok (l := [(i, -1, 65534), (t, 0, 281474976710655)]) (H.roSl (List.Mem.head _)) (by simp)) fun S3 H => ?_
  rw [decide_eq_true (by unfold inP; simp; omega)]
  refine wp_notT ?_
  try(refine zz ?_;(repeat constructor);intro _)
  obtain ⟨r', hr'⟩ : ∃ n : Nat, i + 1 = n := ⟨(i + 1).toNat, by omega⟩
  obtain ⟨t', rfl⟩ : ∃ n : Nat, t = n := ⟨t.toNat, by omega⟩
  refine wp_callV H tops_ok fun S4 H => ?_
  refine wp_alloc H fun o S5 H => ?_
  refine wp_store (v := .agg topTab) H 0 rfl rfl rfl (Nat.le_of_ble_eq_true rfl) fun S6 H => ?_
  have hob : S6.get o = some (.row topTab) := H.oh _ (List.Mem.head _)
  replace H := H.freeze (i := 0) (c := topTab) rfl
  refine wp_op (v := .sl o 0 2 2) rfl ?_
  have hpt := (H.ri (.pt o 0 topTab) (List.Mem.head _))
  replace H := H.addRo (φ := .sl (.sl o 0 2 2) 2 [[I 0, I 16], [I 16, I 48]]) (.inr ⟨o, 0, topTab, .inl ⟨2, Nat.le_refl _, Nat.le_refl _, rfl⟩, row_cells hob, rfl, by simp⟩) (fun id hid => hpt id hid)
  try(refine zz ?_;(repeat constructor);intro _)
  refine wp_load1 H (cs := [I i, I (t' : Int)]) (by repeat (first | exact List.Mem.head _ | apply List.Mem.tail)) rfl ?_
  refine wp_add64 (by omega) (by omega) ?_
  try(refine zz ?_;(repeat constructor);intro _)
  refine wp_load1 H (cs := [I i, I (t' : Int)]) (by repeat (first | exact List.Mem.head _ | apply List.Mem.tail)) rfl ?_
  rw [hr']
  refine wp_litsG H [[I (r' : Int)], [I (t' : Int)]] rfl rfl rfl (by simp) fun w2 S7 H => ?_
  replace H := H.toRo (i := 0) rfl
  refine wp_callV H (lay2_ok (r := r') (s := t') (H.roSl (by repeat (first | exact List.Mem.head _ | apply List.Mem.tail))) (H.roSl (List.Mem.head _)) (by omega) (by omega)) fun S7 H => ?_
  refine wp_ret ⟨rfl, ?_, H.grows⟩
  show AV.tup [_, _] = _
  rw [show ((t' * 65536 + r' : Nat) : Int) = (t' : Int) * 65536 + r' by omega]
theorem link_ok {S : AH} {i : Int} (hi : -1 ≤ i ∧ i ≤ 65534) : wpC EM (.fn (.func 169) [] []) [I i] S fun v S' => v = U (i + 1) ∧ Grows S S' := by
  refine wpC_fn (b := Tryz.a169) rfl rfl ?_
  have H : Cx S [] S [] [] := Cx.enter (by simp)
  rw [Tryz.u169]
  refine wp_op (v := .agg [I i, I 0]) rfl ?_
  refine wp_callV H (putTop_ok hi (by omega)) fun S1 H => ?_
  try(refine zz ?_;(repeat constructor);intro _)
  exact wp_ret ⟨rfl, by rw [show (0 : Int) * 65536 + (i + 1) = i + 1 by omega]; rfl, H.grows⟩
theorem jlay_ok {S : AH} : wpC EM (.fn (.func 118) [] []) [.agg [I 1, I 0, I 1]] S fun v S' => v = U 4294967297 ∧ Grows S S' := by
  refine wpC_fn (b := Tryz.a118) rfl rfl ?_
  have H : Cx S [] S [] [] := Cx.enter (by simp)
  rw [Tryz.u118]
  refine wp_box H rfl fun b S1 H => ?_
  replace H : Cx S [] S1 [] [.pt b 0 [I 1, I 0, I 1]] := H
  try(refine zz ?_;(repeat constructor);intro _)
  refine wp_ld (o := 0) H (by repeat (first | exact List.Mem.head _ | apply List.Mem.tail)) rfl ?_
  refine wp_convU 1 (by omega) ?_
  try(refine zz ?_;(repeat constructor);intro _)
  refine wp_ld (o := 1) H (by repeat (first | exact List.Mem.head _ | apply List.Mem.tail)) rfl ?_
  refine wp_convU 0 (by omega) ?_
  refine wp_shlU (n := 0) (s := 8) (by omega) (by omega) ?_
  refine wp_orU (a := 1) (b := 0) (by omega) (by omega) ?_
  try(refine zz ?_;(repeat constructor);intro _)
  refine wp_ld (o := 2) H (by repeat (first | exact List.Mem.head _ | apply List.Mem.tail)) rfl ?_
  refine wp_convU 1 (by omega) ?_
  refine wp_shlU (n := 1) (s := 32) (by omega) (by omega) ?_
  refine wp_orU (a := 1) (b := 4294967296) (by omega) (by omega) ?_
  exact wp_ret ⟨rfl, rfl, H.grows⟩
end Go.Abs.X
set_option linter.unusedSectionVars false
namespace Go.Abs.X
variable [Ek]
open Go.Proofs
set_option maxRecDepth 100000
set_option linter.unusedVariables false
/-! ### stores -/
structure Mv (lo hi c : Int) (x y : Me) : Prop where
  len : y.ws.length = x.ws.length
  good : y.good
  n : y.n ≤ x.n + c
  out : ∀ a, (a < lo ∨ hi ≤ a) → y.word a = x.word a
theorem Mv.refl {lo hi : Int} {x : Me} (h : x.good) : Mv lo hi 0 x x := ⟨rfl, h, by omega, fun _ _ => rfl⟩
theorem Mv.trans {lo hi c d : Int} {x y z : Me} (h : Mv lo hi c x y) (k : Mv lo hi d y z) : Mv lo hi (c + d) x z :=
  ⟨by rw [k.len, h.len], k.good, by have := h.n; have := k.n; omega, fun a ha => by rw [k.out a ha, h.out a ha]⟩
theorem Mv.mono {lo hi c lo' hi' c' : Int} {x y : Me} (h : Mv lo hi c x y) (h1 : lo' ≤ lo) (h2 : hi ≤ hi') (h3 : c ≤ c') : Mv lo' hi' c' x y :=
  ⟨h.len, h.good, by have := h.n; omega, fun a ha => h.out a (by omega)⟩
theorem acc_word {x : Me} {a z b : Int} : (x.acc 2 a z true).word b = if x.has a ∧ b = a then z else x.word b := by
  unfold Me.acc
  by_cases ha : x.has a
  · rw [if_pos ha]
    generalize x.word a = old
    unfold Me.word
    by_cases hb : x.has b
    · rw [if_pos (show (Me.mk (x.ws.set a.toNat z) 2 a old z true (x.n + 1)).has b from ⟨hb.1, by rw [List.length_set]; exact hb.2⟩), if_pos hb]
      unfold Me.has at ha hb
      rw [List.getElem?_set]
      by_cases e : b = a
      · subst e
        rw [if_pos rfl, if_pos (by omega), if_pos ⟨hb, rfl⟩]; rfl
      · rw [if_neg (by omega), if_neg (fun h => e h.2)]
    · rw [if_neg (show ¬ (Me.mk (x.ws.set a.toNat z) 2 a old z true (x.n + 1)).has b from fun h => hb ⟨h.1, by have := h.2; rw [List.length_set] at this; exact this⟩), if_neg hb, if_neg (show ¬ (x.has a ∧ b = a) from fun h => hb (h.2 ▸ h.1))]
  · rw [if_neg ha, if_neg (fun h => ha h.1)]; rfl
theorem acc_mv {x : Me} {a z : Int} (hx : x.good) (hn : x.n ≤ 1000000) (hz : 0 ≤ z ∧ z < 18446744073709551616) : Mv a (a + 1) 1 x (x.acc 2 a z true) := by
  have hl : (x.acc 2 a z true).ws.length = x.ws.length := by unfold Me.acc; split <;> simp
  have hnn : (x.acc 2 a z true).n = x.n + 1 := by unfold Me.acc; split <;> rfl
  refine ⟨hl, ⟨?_, ?_⟩, by omega, fun b hb => ?_⟩
  · have := hx.1
    unfold Me.wf at *
    omega
  · intro w hw
    unfold Me.acc at hw
    split at hw
    · rcases List.mem_or_eq_of_mem_set hw with hw | rfl
      · exact hx.2 w hw
      · exact hz
    · exact hx.2 w hw
  · rw [acc_word, if_neg (by omega)]
section
variable {B0 S : AH} {W : List Nat} {own R : List Own} {ro : List Fct} {Q : Post} {k : AV → AC} {m bl : Nat} {x : Me} {rest : List AV}
theorem stM_ok {a z : Int} (hx : x.good) (hn : x.n ≤ 1000000) (hz : 0 ≤ z ∧ z < 18446744073709551616) (H : Cx B0 W S (pMem m bl x rest ++ R) ro) : wpC EM (.fn (.func 81) [] []) [.ptr m 0, I a, U z] S fun r S' => ∃ y, Mv a (a + 1) 1 x y ∧ (x.has a → y.word a = z) ∧ Cx B0 W S' (pMem m bl y rest ++ R) ro :=
  wpC_mono (store_ok' hx.1 H) fun r S' H => ⟨_, acc_mv hx hn hz, fun h => by rw [acc_word, if_pos ⟨h, rfl⟩], H⟩
theorem swap1 {P : Own} {A R : List Own} : (P :: (A ++ R)).Perm (A ++ P :: R) := List.perm_middle.symm
theorem stP_ok {P : Own} {a z : Int} (hx : x.good) (hn : x.n ≤ 1000000) (hz : 0 ≤ z ∧ z < 18446744073709551616) (H : Cx B0 W S (P :: (pMem m bl x rest ++ R)) ro) : wpC EM (.fn (.func 81) [] []) [.ptr m 0, I a, U z] S fun r S' => ∃ y, Mv a (a + 1) 1 x y ∧ (x.has a → y.word a = z) ∧ Cx B0 W S' (P :: (pMem m bl y rest ++ R)) ro :=
  wpC_mono (stM_ok (R := P :: R) hx hn hz (H.permS swap1)) fun r S' ⟨y, h1, h2, H⟩ => ⟨y, h1, h2, H.permS swap1.symm⟩
/-! ### what is laid -/
theorem fillS_ok {a b : Int} {n : Nat} {lo hi : Int} (hx : x.good) (hn : x.n ≤ 900000) (h1 : 1 ≤ n ∧ n ≤ 4096) (ha : lo ≤ a ∧ a < hi ∧ 0 ≤ a ∧ a ≤ 100000) (hb : lo ≤ b ∧ b + n ≤ hi ∧ 0 ≤ b ∧ b ≤ 100000) (H : Cx B0 W S (pMem m bl x rest ++ R) ro) :
    wpC EM (.fn (.func 117) [] []) [.agg [I a, I b, I n], .ptr m 0] S fun r S' => ∃ y, Mv lo hi (n + 1) x y ∧ Cx B0 W S' (pMem m bl y rest ++ R) ro := by
  refine wpC_fn (b := Tryz.a117) rfl rfl ?_
  rw [Tryz.u117]
  refine wp_box H rfl fun p S1 H => ?_
  have H : Cx B0 W S1 (pMem m bl x rest ++ R) (.pt p 0 [I a, I b, I (n : Int)] :: ro) := H
  have mp : Fct.pt p 0 [I a, I b, I (n : Int)] ∈ (.pt p 0 [I a, I b, I (n : Int)] :: ro) := List.Mem.head _
  refine wp_ldn (o := 0) (n := 3) H mp rfl ?_
  refine wp_callV H (sizedS_ok (by omega)) fun S2 H => ?_
  refine wp_notT ?_
  try(refine zz ?_;(repeat constructor);intro _)
  refine wp_ld (o := 0) H mp rfl ?_
  refine wp_callV H (link_ok (i := 0) (by omega)) fun S3 H => ?_
  refine wp_ck (o := 0) H mp rfl beq_num ?_
  refine wp_call (wpC_mono (stM_ok hx (by omega) (by omega) H) fun r S4 q => ?_)
  obtain ⟨y, m1, _, H⟩ := q
  try(refine zz ?_;(repeat constructor);intro _)
  refine wp_ld (o := 2) H mp rfl ?_
  refine wp_bind (wp_loop (wpL_for n (fun i vs S' => ∃ u y, vs = [I (i : Int), u] ∧ Mv lo hi (i + 1) x y ∧ Cx B0 W S' (pMem m bl y rest ++ R) (.pt p 0 [I a, I b, I (n : Int)] :: ro)) ?_ ?_ ⟨_, y, rfl, m1.mono (by omega) (by omega) (by omega), H⟩))
  · clear m1 H
    rintro i vs S5 hlt ⟨u, y, rfl, my, H⟩
    refine wp_lss_t (by omega) ?_
    try(refine zz ?_;(repeat constructor);intro _)
    refine wp_bind ?_
    refine wp_add64 (by omega) (by omega) ?_
    try(refine zz ?_;(repeat constructor);intro _)
    refine wp_ld (o := 2) H mp rfl ?_
    have tail : ∀ (e : Int), -1 ≤ e ∧ e ≤ 65534 → wp EM (.op (.faddr 1 (.ptr p 0)) fun v18 => .op (.load 1 false v18) fun v19 => .op (.bin .add v19 (I (i : Int))) fun v20 => .call (.fn (.func 169) [] []) [I e] fun v21 => .chk (.load 1 false v18) v19 (.call (.fn (.func 81) [] []) [.ptr m 0, v20, v21] fun v22 => .ret .normal [I e])) S5
        fun tg vs S' => tg = .normal ∧ ∃ u, vs = [u] ∧ ∃ y, Mv lo hi ((i + 1 : Nat) + 1) x y ∧ Cx B0 W S' (pMem m bl y rest ++ R) (.pt p 0 [I a, I b, I (n : Int)] :: ro) := by
      intro e he
      try(refine zz ?_;(repeat constructor);intro _)
      refine wp_ld (o := 1) H mp rfl ?_
      refine wp_add64 (by omega) (by omega) ?_
      refine wp_callV H (link_ok he) fun S6 H => ?_
      refine wp_ck (o := 1) H mp rfl beq_num ?_
      refine wp_call (wpC_mono (stM_ok my.good (by have := my.n; omega) (by omega) H) fun r S7 q => ?_)
      obtain ⟨y2, m2, _, H⟩ := q
      exact wp_ret ⟨rfl, _, rfl, y2, (my.trans (m2.mono (by omega) (by omega) (Int.le_refl _))).mono (by omega) (by omega) (by omega), H⟩
    refine wp_eql (fun he => ?_) (fun he => ?_)
    · refine wp_bind ?_
      try(refine zz ?_;(repeat constructor);intro _)
      refine wp_ret ?_
      show wp EM _ _ _
      refine wp_mono (tail (-1) (by omega)) fun tg vs S' q => ?_
      obtain ⟨rfl, u, rfl, y2, my2, H⟩ := q
      show wp EM _ _ _
      refine wp_add64 (by omega) (by omega) ?_
      exact wp_ret (.inl ⟨rfl, _, y2, rfl, my2, H⟩)
    · refine wp_bind ?_
      try(refine zz ?_;(repeat constructor);intro _)
      refine wp_ret ?_
      show wp EM _ _ _
      refine wp_mono (tail ((i : Int) + 1) (by omega)) fun tg vs S' q => ?_
      obtain ⟨rfl, u, rfl, y2, my2, H⟩ := q
      show wp EM _ _ _
      refine wp_add64 (by omega) (by omega) ?_
      exact wp_ret (.inl ⟨rfl, _, y2, rfl, my2, H⟩)
  · rintro vs S5 ⟨u, y, rfl, my, H⟩
    refine wp_lss_f (by omega) ?_
    try(refine zz ?_;(repeat constructor);intro _)
    refine wp_ret ⟨by simp, ?_⟩
    show wp EM _ _ _
    exact wp_ret ⟨rfl, y, my, H.tl⟩
end
end Go.Abs.X
set_option linter.unusedSectionVars false
namespace Go.Abs.X
variable [Ek]
open Go.Proofs
set_option maxRecDepth 100000
set_option linter.unusedVariables false
section
variable {B0 S : AH} {W : List Nat} {own R : List Own} {ro : List Fct} {Q : Post} {k : AV → AC} {m bl : Nat} {x : Me} {rest : List AV} {N C h n J Rm : Nat} {lim : Int}
theorem fillA_ok (hx : x.good) (hn : x.n ≤ 800000) (hN : 1 ≤ N ∧ N ≤ 128) (H : Cx B0 W S (pMem m bl x rest ++ R) ro) :
    wpC EM (.fn (.func 164) [] []) [.agg (toL N C h lim).ab, .ptr m 0] S fun r S' => ∃ y, Mv 0 (2 + 2 * N) (2 * N + 2) x y ∧ Cx B0 W S' (pMem m bl y rest ++ R) ro := by
  refine wpC_fn (b := Tryz.a164) rfl rfl ?_
  rw [Tryz.u164]
  refine wp_box H rfl fun p S1 H => ?_
  have H : Cx B0 W S1 (pMem m bl x rest ++ R) (.pt p 0 (toL N C h lim).ab :: ro) := H
  have mp : Fct.pt p 0 (toL N C h lim).ab ∈ (.pt p 0 (toL N C h lim).ab :: ro) := List.Mem.head _
  refine wp_ldn (o := 0) (n := 6) H mp rfl ?_
  refine wp_callV H (sizedA_ok (n := N) (by omega)) fun S2 H => ?_
  refine wp_notT ?_
  try(refine zz ?_;(repeat constructor);intro _)
  refine wp_ldn (o := 0) (n := 3) H mp rfl ?_
  refine wp_call (wpC_mono (fillS_ok (a := 0) (b := 1) (n := N) (lo := 0) (hi := 2 + 2 * N) hx (by omega) (by omega) (by omega) (by omega) H) fun r S4 q => ?_)
  obtain ⟨y, m1, H⟩ := q
  try(refine zz ?_;(repeat constructor);intro _)
  refine wp_ld (o := 4) H mp rfl ?_
  refine wp_call (wpC_mono (stM_ok (a := 1 + 2 * N) m1.good (by have := m1.n; omega) (by omega) H) fun r S5 q => ?_)
  obtain ⟨y2, m2, _, H⟩ := q
  try(refine zz ?_;(repeat constructor);intro _)
  refine wp_ld (o := 2) H mp rfl ?_
  refine wp_bind (wp_loop (wpL_for N (fun i vs S' => ∃ y, vs = [I (i : Int)] ∧ Mv 0 (2 + 2 * N) (N + 2 + i) x y ∧ Cx B0 W S' (pMem m bl y rest ++ R) (.pt p 0 (toL N C h lim).ab :: ro)) ?_ ?_ ⟨y2, rfl, (m1.trans (m2.mono (by omega) (by omega) (Int.le_refl _))).mono (by omega) (by omega) (by omega), H⟩))
  · clear m1 m2 H
    rintro i vs S5 hlt ⟨y, rfl, my, H⟩
    refine wp_lss_t (by show (i : Int) < (N : Int); omega) ?_
    try(refine zz ?_;(repeat constructor);intro _)
    refine wp_bind ?_
    try(refine zz ?_;(repeat constructor);intro _)
    refine wp_ld (o := 3) H mp rfl ?_
    refine wp_add64 (by show _ ≤ (1 + N + i : Int); omega) (by show (1 + N + i : Int) ≤ _; omega) ?_
    refine wp_call (wpC_mono (stM_ok (a := 1 + N + i) my.good (by have := my.n; omega) (by omega) H) fun r S7 q => ?_)
    obtain ⟨y2, m2, _, H⟩ := q
    refine wp_ret ?_
    show wp EM _ _ _
    refine wp_add64 (by omega) (by omega) ?_
    exact wp_ret (.inl ⟨rfl, y2, rfl, (my.trans (m2.mono (by omega) (by omega) (Int.le_refl _))).mono (by omega) (by omega) (by omega), H⟩)
  · rintro vs S5 ⟨y, rfl, my, H⟩
    refine wp_lss_f (by show (N : Int) ≤ (N : Int); omega) ?_
    try(refine zz ?_;(repeat constructor);intro _)
    refine wp_ret ⟨by simp, ?_⟩
    show wp EM _ _ _
    exact wp_ret ⟨rfl, y, my.mono (by omega) (by omega) (by omega), H.tl⟩
theorem fillE_ok {a b : Int} {lo hi : Int} (hx : x.good) (hn : x.n ≤ 800000) (h1 : 1 ≤ n ∧ n ≤ 64) (ha : lo ≤ a ∧ a < hi ∧ 0 ≤ a ∧ a ≤ 100000) (hb : lo ≤ b ∧ b + n ≤ hi ∧ 0 ≤ b ∧ b ≤ 100000) (H : Cx B0 W S (pMem m bl x rest ++ R) ro) :
    wpC EM (.fn (.func 165) [] []) [.agg [I a, I b, I n], .ptr m 0] S fun r S' => ∃ y, Mv lo hi (n + 1) x y ∧ Cx B0 W S' (pMem m bl y rest ++ R) ro := by
  refine wpC_fn (b := Tryz.a165) rfl rfl ?_
  unfold Tryz.a165 Tryz.a165x2 Tryz.a165x1 
  refine wp_box H rfl fun p S1 H => ?_
  refine wp_box H rfl fun pm S1 H => ?_
  have H : Cx B0 W S1 (pMem m bl x rest ++ R) (.pt pm 0 [.ptr m 0] :: .pt p 0 [I a, I b, I (n : Int)] :: ro) := H
  refine wp_ldn (o := 0) (n := 3) (cs := [I a, I b, I (n : Int)]) H (by repeat (first | exact List.Mem.head _ | apply List.Mem.tail)) rfl ?_
  refine wp_callV H (sizedE_ok (by omega)) fun S2 H => ?_
  refine wp_notT ?_
  try(refine zz ?_;(repeat constructor);intro _)
  refine wp_ld (o := 0) H (List.Mem.head _) rfl ?_
  try(refine zz ?_;(repeat constructor);intro _)
  refine wp_ld (o := 0) (cs := [I a, I b, I (n : Int)]) H (by repeat (first | exact List.Mem.head _ | apply List.Mem.tail)) rfl ?_
  refine wp_call (wpC_mono (stM_ok hx (by omega) (by omega) H) fun r S4 q => ?_)
  obtain ⟨y, m1, _, H⟩ := q
  refine wp_ldn (o := 0) (n := 3) (cs := [I a, I b, I (n : Int)]) H (by repeat (first | exact List.Mem.head _ | apply List.Mem.tail)) rfl ?_
  refine wp_call (wpC_fn (b := Tryz.a255) rfl rfl ?_)
  rw [Tryz.u255]
  refine wp_box H rfl fun pb S4 H => ?_
  have H : Cx B0 W S4 (pMem m bl y rest ++ R) (.pt pb 0 [I a, I b, I (n : Int)] :: .pt pm 0 [.ptr m 0] :: .pt p 0 [I a, I b, I (n : Int)] :: ro) := H
  have back : ∀ {S own}, Cx B0 W S own (.pt pb 0 [I a, I b, I (n : Int)] :: .pt pm 0 [.ptr m 0] :: .pt p 0 [I a, I b, I (n : Int)] :: ro) → Cx B0 W S own ro := fun H => H.tl.tl.tl
  have mb : Fct.pt pb 0 [I a, I b, I (n : Int)] ∈ (.pt pb 0 [I a, I b, I (n : Int)] :: .pt pm 0 [.ptr m 0] :: .pt p 0 [I a, I b, I (n : Int)] :: ro) := by repeat (first | exact List.Mem.head _ | apply List.Mem.tail)
  have mm : Fct.pt pm 0 [.ptr m 0] ∈ (.pt pb 0 [I a, I b, I (n : Int)] :: .pt pm 0 [.ptr m 0] :: .pt p 0 [I a, I b, I (n : Int)] :: ro) := by repeat (first | exact List.Mem.head _ | apply List.Mem.tail)
  generalize (Fct.pt pb 0 [I a, I b, I (n : Int)] :: .pt pm 0 [.ptr m 0] :: .pt p 0 [I a, I b, I (n : Int)] :: ro) = ro1 at H back mb mm
  refine wp_ret ⟨rfl, ?_⟩
  show wp EM _ _ _
  refine wp_bind (wp_rngO H (by intro i e; cases e) (fun S' => ∃ y, Mv lo hi (n + 1) x y ∧ Cx B0 W S' (pMem m bl y rest ++ R) ro1) ?_ ?_)
  · intro l S5 HL
    clear H
    refine wpC_fn (b := Tryz.a330) rfl rfl ?_
    rw [Tryz.u330]
    try(refine zz ?_;(repeat constructor);intro _)
    refine wp_ld (o := 2) HL mb rfl ?_
    refine wp_bind (wp_loop (wpL_for n (fun i vs S' => ∃ y, vs = [I (i : Int)] ∧ Mv lo hi (i + 1) x y ∧ Cx B0 W S' (.obj l (.loop .ready none 2 fun v12 => Tryz.a165x0 (.ptr pm 0) v12) :: (pMem m bl y rest ++ R)) ro1) ?_ ?_ ⟨y, rfl, m1.mono (by omega) (by omega) (by omega), HL⟩))
    · clear HL m1
      rintro i vs S6 hlt ⟨y, rfl, my, H⟩
      refine wp_lss_t (by omega) ?_
      try(refine zz ?_;(repeat constructor);intro _)
      refine wp_bind ?_
      try(refine zz ?_;(repeat constructor);intro _)
      refine wp_ld (o := 1) H mb rfl ?_
      refine wp_add64 (by omega) (by omega) ?_
      refine wp_call (wpC_mono (wpC_ydO (R := fun S' => ∃ y, Mv lo hi ((i + 1 : Nat) + 1) x y ∧ Cx B0 W S' (.obj l (.loop .ready none 2 fun v12 => Tryz.a165x0 (.ptr pm 0) v12) :: (pMem m bl y rest ++ R)) ro1) H 0 rfl rfl ?_) fun u2 S17 q => ?_)
      · unfold Tryz.a165x0 
        refine wp_startO H 0 rfl fun S9 H => ?_
        refine wp_bind ?_
        refine wp_ld (o := 0) H mm rfl ?_
        refine wp_call (wpC_mono (stP_ok (a := b + i) my.good (by have := my.n; omega) (by omega) H) fun r S7 q => ?_)
        obtain ⟨y2, m2, _, H⟩ := q
        refine wp_ret ?_
        show wp EM _ _ _
        exact wp_ret ⟨rfl, _, _, H, rfl, fun S2 H => ⟨y2, (my.trans (m2.mono (by omega) (by omega) (Int.le_refl _))).mono (by omega) (by omega) (by omega), H⟩⟩
      · obtain ⟨rfl, y2, my2, H⟩ := q
        refine wp_notT ?_
        try(refine zz ?_;(repeat constructor);intro _)
        refine wp_ret ?_
        show wp EM _ _ _
        refine wp_add64 (by omega) (by omega) ?_
        exact wp_ret (.inl ⟨rfl, y2, rfl, my2, H⟩)
    · rintro vs S6 ⟨y, rfl, my, H⟩
      refine wp_lss_f (by omega) ?_
      try(refine zz ?_;(repeat constructor);intro _)
      refine wp_ret ⟨by simp, ?_⟩
      show wp EM _ _ _
      exact wp_ret ⟨rfl, H.oh _ (List.Mem.head _), fun S2 g1 g2 => ⟨y, my, H.other (n := 0) rfl g1 g2⟩⟩
  · rintro S5 ⟨y, my, H⟩
    refine wp_ret ?_
    show wp EM _ _ _
    exact wp_ret ⟨rfl, y, my, back H⟩
theorem lturn_ok {i : Int} (hN : 1 ≤ N ∧ N ≤ 128) (hC : C ≤ 64) (hi : 0 ≤ i ∧ i ≤ 2) : wpC EM (.fn (.func 166) [] []) [I i, .agg (toL N C h lim).lb] S fun r S' => r = .agg [I (3 + 2 * N + C + i), I 1, I N] ∧ Grows S S' := by
  refine wpC_fn (b := Tryz.a166) rfl rfl ?_
  have H : Cx S [] S [] [] := Cx.enter (by simp)
  rw [Tryz.u166]
  refine wp_fin ?_
  refine wp_box H rfl fun p S1 H => ?_
  refine wp_alloc H fun q S2 H => ?_
  have H : Cx S [] S2 [.obj q (.row [I 0, I 0, I 0])] [.pt p 0 (toL N C h lim).lb] := H
  have mp : Fct.pt p 0 (toL N C h lim).lb ∈ [Fct.pt p 0 (toL N C h lim).lb] := List.Mem.head _
  try(refine zz ?_;(repeat constructor);intro _)
  refine wp_ld (o := 9) H mp rfl ?_
  refine wp_add64 (by show _ ≤ (3 + 2 * N + C + i : Int); omega) (by show (3 + 2 * N + C + i : Int) ≤ _; omega) ?_
  try(refine zz ?_;(repeat constructor);intro _)
  refine wp_ld (o := 1) H mp rfl ?_
  try(refine zz ?_;(repeat constructor);intro _)
  refine wp_ld (o := 2) H mp rfl ?_
  refine wp_op (v := .agg [I (3 + 2 * N + C + i), I 1, I N]) rfl ?_
  refine wp_store (n := 3) H 0 (c := [I 0, I 0, I 0]) rfl rfl rfl (by simp) fun S3 H => ?_
  have H : Cx S [] S3 [.obj q (.row [I (3 + 2 * N + C + i), I 1, I N])] [.pt p 0 (toL N C h lim).lb] := H
  refine wp_ret ⟨.inr rfl, ?_⟩
  refine wp_loadoa (n := 3) H 0 rfl (by simp) ?_
  exact wp_ret ⟨rfl, rfl, H.grows⟩
theorem fillL_ok (hx : x.good) (hn : x.n ≤ 700000) (hN : 1 ≤ N ∧ N ≤ 128) (hC : 1 ≤ C ∧ C ≤ 64) (H : Cx B0 W S (pMem m bl x rest ++ R) ro) :
    wpC EM (.fn (.func 114) [] []) [.agg (toL N C h lim).lb, .ptr m 0] S fun r S' => ∃ y, Mv 0 (6 + 2 * N + C) (2 * N + C + 6) x y ∧ Cx B0 W S' (pMem m bl y rest ++ R) ro := by
  refine wpC_fn (b := Tryz.a114) rfl rfl ?_
  rw [Tryz.u114]
  refine wp_box H rfl fun p S1 H => ?_
  have H : Cx B0 W S1 (pMem m bl x rest ++ R) (.pt p 0 (toL N C h lim).lb :: ro) := H
  have mp : Fct.pt p 0 (toL N C h lim).lb ∈ (.pt p 0 (toL N C h lim).lb :: ro) := List.Mem.head _
  try(refine zz ?_;(repeat constructor);intro _)
  refine wp_ldn (o := 0) (n := 6) H mp rfl ?_
  refine wp_call (wpC_mono (fillA_ok (N := N) (C := C) (h := h) (lim := lim) hx (by omega) hN H) fun r S4 q => ?_)
  obtain ⟨y, m1, H⟩ := q
  try(refine zz ?_;(repeat constructor);intro _)
  refine wp_ldn (o := 6) (n := 3) H mp rfl ?_
  refine wp_call (wpC_mono (fillE_ok (a := 2 + 2 * N) (b := 3 + 2 * N) (n := C) (lo := 0) (hi := 6 + 2 * N + C) m1.good (by have := m1.n; omega) hC (by omega) (by omega) H) fun r S4 q => ?_)
  obtain ⟨y2, m2, H⟩ := q
  refine wp_bind (wp_loop (wpL_for 3 (fun i vs S' => ∃ y, vs = [I (i : Int)] ∧ Mv 0 (6 + 2 * N + C) (2 * N + C + 3 + i) x y ∧ Cx B0 W S' (pMem m bl y rest ++ R) (.pt p 0 (toL N C h lim).lb :: ro)) ?_ ?_ ⟨y2, rfl, ((m1.mono (Int.le_refl _) (by omega) (Int.le_refl _)).trans m2).mono (by omega) (by omega) (by omega), H⟩))
  · clear m1 m2 H
    rintro i vs S5 hlt ⟨y, rfl, my, H⟩
    refine wp_lss_t (by omega) ?_
    try(refine zz ?_;(repeat constructor);intro _)
    refine wp_bind ?_
    refine wp_ldn (o := 0) (n := 10) H mp rfl ?_
    refine wp_callV H (lturn_ok (N := N) (C := C) (h := h) (lim := lim) hN hC.2 (by omega)) fun S6 H => ?_
    refine wp_op (v := I (3 + 2 * N + C + i)) rfl ?_
    refine wp_call (wpC_mono (stM_ok (a := 3 + 2 * N + C + i) my.good (by have := my.n; omega) (by omega) H) fun r S7 q => ?_)
    obtain ⟨y2, m2, _, H⟩ := q
    refine wp_ret ?_
    show wp EM _ _ _
    refine wp_add64 (by omega) (by omega) ?_
    exact wp_ret (.inl ⟨rfl, y2, rfl, (my.trans (m2.mono (by omega) (by omega) (Int.le_refl _))).mono (by omega) (by omega) (by omega), H⟩)
  · rintro vs S5 ⟨y, rfl, my, H⟩
    refine wp_lss_f (by omega) ?_
    try(refine zz ?_;(repeat constructor);intro _)
    refine wp_ret ⟨by simp, ?_⟩
    show wp EM _ _ _
    exact wp_ret ⟨rfl, y, my.mono (by omega) (by omega) (by omega), H.tl⟩
theorem fillT_ok (hx : x.good) (hn : x.n ≤ 600000) (hN : 1 ≤ N ∧ N ≤ 128) (hC : 1 ≤ C ∧ C ≤ 64) (hh : 1 ≤ h ∧ h ≤ 4) (hlen : 6 + 2 * N + C + h ≤ x.ws.length) (H : Cx B0 W S (pMem m bl x rest ++ R) ro) :
    wpC EM (.fn (.func 76) [] []) [.agg (toL N C h lim).cs, .ptr m 0] S fun r S' => ∃ y, Mv 0 (6 + 2 * N + C + h) (2 * N + C + 6 + h) x y ∧ (∀ k : Nat, k < h → y.word (6 + 2 * N + C + k) = 0) ∧ Cx B0 W S' (pMem m bl y rest ++ R) ro := by
  refine wpC_fn (b := Tryz.a76) rfl rfl ?_
  rw [Tryz.u76]
  refine wp_box H rfl fun p S1 H => ?_
  have H : Cx B0 W S1 (pMem m bl x rest ++ R) (.pt p 0 (toL N C h lim).cs :: ro) := H
  have mp : Fct.pt p 0 (toL N C h lim).cs ∈ (.pt p 0 (toL N C h lim).cs :: ro) := List.Mem.head _
  refine wp_ldn (o := 0) (n := 13) H mp rfl ?_
  refine wp_callV H (sound_ok (t := toL N C h lim)) fun S2 H => ?_
  rw [decide_eq_true (toL_ok hN hC.2 hh)]
  refine wp_notT ?_
  try(refine zz ?_;(repeat constructor);intro _)
  refine wp_ldn (o := 3) (n := 10) H mp rfl ?_
  refine wp_call (wpC_mono (fillL_ok (N := N) (C := C) (h := h) (lim := lim) hx (by omega) hN hC H) fun r S4 q => ?_)
  obtain ⟨y, m1, H⟩ := q
  try(refine zz ?_;(repeat constructor);intro _)
  refine wp_ld (o := 2) H mp rfl ?_
  refine wp_bind (wp_loop (wpL_for h (fun i vs S' => ∃ y, vs = [I (i : Int)] ∧ Mv 0 (6 + 2 * N + C + h) (2 * N + C + 6 + i) x y ∧ (∀ k : Nat, k < i → y.word (6 + 2 * N + C + k) = 0) ∧ Cx B0 W S' (pMem m bl y rest ++ R) (.pt p 0 (toL N C h lim).cs :: ro)) ?_ ?_ ⟨y, rfl, m1.mono (by omega) (by omega) (by omega), fun k hk => by omega, H⟩))
  · clear m1 H
    rintro i vs S5 hlt ⟨y, rfl, my, hz, H⟩
    refine wp_lss_t (by show (i : Int) < (h : Int); omega) ?_
    try(refine zz ?_;(repeat constructor);intro _)
    refine wp_bind ?_
    try(refine zz ?_;(repeat constructor);intro _)
    refine wp_ld (o := 1) H mp rfl ?_
    refine wp_add64 (by show _ ≤ (6 + 2 * N + C + i : Int); omega) (by show (6 + 2 * N + C + i : Int) ≤ _; omega) ?_
    refine wp_call (wpC_mono (stM_ok (a := 6 + 2 * N + C + i) my.good (by have := my.n; omega) (by omega) H) fun r S7 q => ?_)
    obtain ⟨y2, m2, hv, H⟩ := q
    refine wp_ret ?_
    show wp EM _ _ _
    refine wp_add64 (by omega) (by omega) ?_
    refine wp_ret (.inl ⟨rfl, y2, rfl, (my.trans (m2.mono (by omega) (by omega) (Int.le_refl _))).mono (by omega) (by omega) (by omega), fun k hk => ?_, H⟩)
    by_cases e : k = i
    · subst e; exact hv ⟨by omega, by rw [my.len]; omega⟩
    · rw [m2.out _ (by omega)]; exact hz k (by omega)
  · rintro vs S5 ⟨y, rfl, my, hz, H⟩
    refine wp_lss_f (by show (h : Int) ≤ (h : Int); omega) ?_
    try(refine zz ?_;(repeat constructor);intro _)
    refine wp_ret ⟨by simp, ?_⟩
    show wp EM _ _ _
    exact wp_ret ⟨rfl, y, my.mono (by omega) (by omega) (by omega), hz, H.tl⟩
end
end Go.Abs.X
set_option linter.unusedSectionVars false
namespace Go.Abs.X
variable [Ek]
open Go.Proofs
set_option maxRecDepth 100000
set_option linter.unusedVariables false
open Tsk (Tk tks tchk)
section
variable {B0 S : AH} {W : List Nat} {own R : List Own} {ro : List Fct} {Q : Post} {k : AV → AC} {m bl : Nat} {x : Me} {rest : List AV} {N C h n J Rm : Nat} {lim : Int}
theorem fillG_ok {g : Int} (hx : x.good) (hn : x.n ≤ 500000) (h1 : 1 ≤ n ∧ n ≤ 32) (hg : 0 ≤ g ∧ g ≤ 100000) (H : Cx B0 W S (pMem m bl x rest ++ R) ro) :
    wpC EM (.fn (.func 77) [] []) [.agg [I g, I n], .ptr m 0] S fun r S' => ∃ y, Mv g (g + n) n x y ∧ Cx B0 W S' (pMem m bl y rest ++ R) ro := by
  refine wpC_fn (b := Tryz.a77) rfl rfl ?_
  unfold Tryz.a77 Tryz.a77x1 
  refine wp_box H rfl fun p S1 H => ?_
  refine wp_box H rfl fun pm S1 H => ?_
  have H : Cx B0 W S1 (pMem m bl x rest ++ R) (.pt pm 0 [.ptr m 0] :: .pt p 0 [I g, I (n : Int)] :: ro) := H
  refine wp_ldn (o := 0) (n := 2) (cs := [I g, I (n : Int)]) H (by repeat (first | exact List.Mem.head _ | apply List.Mem.tail)) rfl ?_
  refine wp_callV H (sizedG_ok (by omega)) fun S2 H => ?_
  refine wp_notT ?_
  try(refine zz ?_;(repeat constructor);intro _)
  refine wp_ldn (o := 0) (n := 2) (cs := [I g, I (n : Int)]) H (by repeat (first | exact List.Mem.head _ | apply List.Mem.tail)) rfl ?_
  refine wp_call (wpC_fn (b := Tryz.a116) rfl rfl ?_)
  rw [Tryz.u116]
  refine wp_box H rfl fun pb S4 H => ?_
  have H : Cx B0 W S4 (pMem m bl x rest ++ R) (.pt pb 0 [I g, I (n : Int)] :: .pt pm 0 [.ptr m 0] :: .pt p 0 [I g, I (n : Int)] :: ro) := H
  have back : ∀ {S own}, Cx B0 W S own (.pt pb 0 [I g, I (n : Int)] :: .pt pm 0 [.ptr m 0] :: .pt p 0 [I g, I (n : Int)] :: ro) → Cx B0 W S own ro := fun H => H.tl.tl.tl
  have mb : Fct.pt pb 0 [I g, I (n : Int)] ∈ (.pt pb 0 [I g, I (n : Int)] :: .pt pm 0 [.ptr m 0] :: .pt p 0 [I g, I (n : Int)] :: ro) := by repeat (first | exact List.Mem.head _ | apply List.Mem.tail)
  have mm : Fct.pt pm 0 [.ptr m 0] ∈ (.pt pb 0 [I g, I (n : Int)] :: .pt pm 0 [.ptr m 0] :: .pt p 0 [I g, I (n : Int)] :: ro) := by repeat (first | exact List.Mem.head _ | apply List.Mem.tail)
  generalize (Fct.pt pb 0 [I g, I (n : Int)] :: .pt pm 0 [.ptr m 0] :: .pt p 0 [I g, I (n : Int)] :: ro) = ro1 at H back mb mm
  refine wp_ret ⟨rfl, ?_⟩
  show wp EM _ _ _
  refine wp_bind (wp_rngO H (by intro i e; cases e) (fun S' => ∃ y, Mv g (g + n) n x y ∧ Cx B0 W S' (pMem m bl y rest ++ R) ro1) ?_ ?_)
  · intro l S5 HL
    clear H
    refine wpC_fn (b := Tryz.a167) rfl rfl ?_
    rw [Tryz.u167]
    try(refine zz ?_;(repeat constructor);intro _)
    refine wp_ld (o := 1) HL mb rfl ?_
    refine wp_bind (wp_loop (wpL_for n (fun i vs S' => ∃ y, vs = [I (i : Int)] ∧ Mv g (g + n) i x y ∧ Cx B0 W S' (.obj l (.loop .ready none 1 fun v8 => Tryz.a77x0 (.ptr pm 0) v8) :: (pMem m bl y rest ++ R)) ro1) ?_ ?_ ⟨x, rfl, Mv.refl hx, HL⟩))
    · clear HL
      rintro i vs S6 hlt ⟨y, rfl, my, H⟩
      refine wp_lss_t (by omega) ?_
      try(refine zz ?_;(repeat constructor);intro _)
      refine wp_bind ?_
      try(refine zz ?_;(repeat constructor);intro _)
      refine wp_ld (o := 0) H mb rfl ?_
      refine wp_add64 (by omega) (by omega) ?_
      refine wp_call (wpC_mono (wpC_ydO (R := fun S' => ∃ y, Mv g (g + n) (i + 1 : Nat) x y ∧ Cx B0 W S' (.obj l (.loop .ready none 1 fun v8 => Tryz.a77x0 (.ptr pm 0) v8) :: (pMem m bl y rest ++ R)) ro1) H 0 rfl rfl ?_) fun u2 S17 q => ?_)
      · unfold Tryz.a77x0 
        refine wp_startO H 0 rfl fun S9 H => ?_
        refine wp_bind ?_
        refine wp_ld (o := 0) H mm rfl ?_
        refine wp_call (wpC_mono (stP_ok (a := g + i) my.good (by have := my.n; omega) (by omega) H) fun r S7 q => ?_)
        obtain ⟨y2, m2, _, H⟩ := q
        refine wp_ret ?_
        show wp EM _ _ _
        exact wp_ret ⟨rfl, _, _, H, rfl, fun S2 H => ⟨y2, (my.trans (m2.mono (by omega) (by omega) (Int.le_refl _))).mono (by omega) (by omega) (by omega), H⟩⟩
      · obtain ⟨rfl, y2, my2, H⟩ := q
        refine wp_notT ?_
        try(refine zz ?_;(repeat constructor);intro _)
        refine wp_ret ?_
        show wp EM _ _ _
        refine wp_add64 (by omega) (by omega) ?_
        exact wp_ret (.inl ⟨rfl, y2, rfl, my2, H⟩)
    · rintro vs S6 ⟨y, rfl, my, H⟩
      refine wp_lss_f (by omega) ?_
      try(refine zz ?_;(repeat constructor);intro _)
      refine wp_ret ⟨by simp, ?_⟩
      show wp EM _ _ _
      exact wp_ret ⟨rfl, H.oh _ (List.Mem.head _), fun S2 g1 g2 => ⟨y, my, H.other (n := 0) rfl g1 g2⟩⟩
  · rintro S5 ⟨y, my, H⟩
    refine wp_ret ?_
    show wp EM _ _ _
    exact wp_ret ⟨rfl, y, my, back H⟩
theorem fillJ_ok {j : Int} (hx : x.good) (hn : x.n ≤ 400000) (hJ : 1 ≤ J ∧ J ≤ 64) (hj : 0 ≤ j ∧ j ≤ 90000) (hlen : j + 3 * J + 1 ≤ x.ws.length) (H : Cx B0 W S (pMem m bl x rest ++ R) ro) :
    wpC EM (.fn (.func 78) [] []) [.agg [I j, I (j + J), I (j + 2 * J), I (j + 2 * J + 1), I (J : Int)], .ptr m 0] S fun r S' => ∃ y, Mv j (j + 3 * J + 1) (3 * J + 1) x y ∧ (∀ k : Nat, k < J → y.word (j + k) = 4294967297) ∧ Cx B0 W S' (pMem m bl y rest ++ R) ro := by
  refine wpC_fn (b := Tryz.a78) rfl rfl ?_
  rw [Tryz.u78]
  refine wp_box H rfl fun p S1 H => ?_
  have H : Cx B0 W S1 (pMem m bl x rest ++ R) (.pt p 0 [I j, I (j + J), I (j + 2 * J), I (j + 2 * J + 1), I (J : Int)] :: ro) := H
  have mp : Fct.pt p 0 [I j, I (j + J), I (j + 2 * J), I (j + 2 * J + 1), I (J : Int)] ∈ (.pt p 0 [I j, I (j + J), I (j + 2 * J), I (j + 2 * J + 1), I (J : Int)] :: ro) := List.Mem.head _
  refine wp_ldn (o := 0) (n := 5) H mp rfl ?_
  refine wp_callV H (sizedJ_ok (n := J) (by omega)) fun S2 H => ?_
  refine wp_notT ?_
  try(refine zz ?_;(repeat constructor);intro _)
  refine wp_ldn (o := 2) (n := 3) H mp rfl ?_
  refine wp_call (wpC_mono (fillS_ok (a := j + 2 * J) (b := j + 2 * J + 1) (n := J) (lo := j) (hi := j + 3 * J + 1) hx (by omega) (by omega) (by omega) (by omega) H) fun r S4 q => ?_)
  obtain ⟨y, m1, H⟩ := q
  try(refine zz ?_;(repeat constructor);intro _)
  refine wp_ld (o := 4) H mp rfl ?_
  refine wp_bind (wp_loop (wpL_for J (fun i vs S' => ∃ y, vs = [I (i : Int)] ∧ Mv j (j + 3 * J + 1) (J + 1 + 2 * i) x y ∧ (∀ k : Nat, k < i → y.word (j + k) = 4294967297) ∧ Cx B0 W S' (pMem m bl y rest ++ R) (.pt p 0 [I j, I (j + J), I (j + 2 * J), I (j + 2 * J + 1), I (J : Int)] :: ro)) ?_ ?_ ⟨y, rfl, m1.mono (by omega) (by omega) (by omega), fun k hk => by omega, H⟩))
  · clear m1 H
    rintro i vs S5 hlt ⟨y, rfl, my, hz, H⟩
    refine wp_lss_t (by omega) ?_
    try(refine zz ?_;(repeat constructor);intro _)
    refine wp_bind ?_
    try(refine zz ?_;(repeat constructor);intro _)
    refine wp_ld (o := 0) H mp rfl ?_
    refine wp_add64 (by omega) (by omega) ?_
    refine wp_op (v := .agg [I 1, I 0, I 1]) rfl ?_
    refine wp_callV H jlay_ok fun S6 H => ?_
    refine wp_ck (o := 0) H mp rfl beq_num ?_
    refine wp_call (wpC_mono (stM_ok (a := j + i) my.good (by have := my.n; omega) (by omega) H) fun r S7 q => ?_)
    obtain ⟨y2, m2, hv, H⟩ := q
    try(refine zz ?_;(repeat constructor);intro _)
    refine wp_ld (o := 1) H mp rfl ?_
    refine wp_add64 (by omega) (by omega) ?_
    refine wp_call (wpC_mono (stM_ok (a := j + J + i) m2.good (by have := my.n; have := m2.n; omega) (by omega) H) fun r S8 q => ?_)
    obtain ⟨y3, m3, _, H⟩ := q
    refine wp_ret ?_
    show wp EM _ _ _
    refine wp_add64 (by omega) (by omega) ?_
    refine wp_ret (.inl ⟨rfl, y3, rfl, ((my.trans (m2.mono (by omega) (by omega) (Int.le_refl _))).trans (m3.mono (by omega) (by omega) (Int.le_refl _))).mono (by omega) (by omega) (by omega), fun k hk => ?_, H⟩)
    rw [m3.out _ (by omega)]
    by_cases e : k = i
    · subst e; exact hv ⟨by omega, by rw [my.len]; omega⟩
    · rw [m2.out _ (by omega)]; exact hz k (by omega)
  · rintro vs S5 ⟨y, rfl, my, hz, H⟩
    refine wp_lss_f (by omega) ?_
    try(refine zz ?_;(repeat constructor);intro _)
    refine wp_ret ⟨by simp, ?_⟩
    show wp EM _ _ _
    exact wp_ret ⟨rfl, y, my.mono (by omega) (by omega) (by omega), hz, H.tl⟩
theorem sizedQ_ok {a b c : Int} (h1 : 1 ≤ n ∧ n ≤ 4096) : wpC EM (.fn (.func 158) [] []) [.agg [I a, I b, I c, I (n : Int)]] S fun r S' => r = B true ∧ Grows S S' := by
  refine wpC_fn (b := Tryz.a158) rfl rfl ?_
  have H : Cx S [] S [] [] := Cx.enter (by simp)
  rw [Tryz.u158]
  repeat' (first | (first|refine zA ?_|refine zB rfl ?_|refine zC ?_|refine zD ?_|refine zE rfl ?_|refine zF ?_|refine zG ?_|refine zH ?_|refine zI ?_|refine zJ ?_|refine zK ?_|refine zL rfl ?_|refine zN rfl ?_) | refine wp_bind ?_ | refine wp_box (by assumption) rfl fun _ _ _ => ?_ | refine wp_tmpN (by assumption) rfl rfl rfl fun _ _ _ => ?_ | refine wp_ld (by assumption) (by repeat (first | exact List.Mem.head _ | apply List.Mem.tail)) rfl ?_ | refine wp_ldn (by assumption) (by repeat (first | exact List.Mem.head _ | apply List.Mem.tail)) rfl ?_ | refine wp_notT ?_ | refine wp_notF ?_ | (refine wp_ret ?_; show wp EM _ _ _) | refine wp_lss (fun _ => ?_) (fun _ => ?_) | refine wp_gtr (fun _ => ?_) (fun _ => ?_) | refine wp_leq (fun _ => ?_) (fun _ => ?_) | refine wp_geq (fun _ => ?_) (fun _ => ?_) | refine wp_eql (fun _ => ?_) (fun _ => ?_) | refine wp_neq (fun _ => ?_) (fun _ => ?_) | refine wp_add64 (by omega) (by omega) ?_ | refine wp_sub64 (by omega) (by omega) ?_)
  all_goals first | (exfalso; omega) | exact wp_ret ⟨rfl, rfl, Cx.grows (by assumption)⟩
theorem fillQ_ok {a : Int} (hx : x.good) (hn : x.n ≤ 300000) (hJ : 1 ≤ n ∧ n ≤ 16) (ha : 0 ≤ a ∧ a ≤ 90000) (hlen : a + n + 2 ≤ x.ws.length) (H : Cx B0 W S (pMem m bl x rest ++ R) ro) :
    wpC EM (.fn (.func 120) [] []) [.agg [I a, I (a + 1), I (a + 2), I (n : Int)], .ptr m 0] S fun r S' => ∃ y, Mv a (a + n + 2) (n + 2) x y ∧ (∀ k, a ≤ k ∧ k < a + n + 2 → y.word k = 0) ∧ Cx B0 W S' (pMem m bl y rest ++ R) ro := by
  refine wpC_fn (b := Tryz.a120) rfl rfl ?_
  rw [Tryz.u120]
  refine wp_box H rfl fun p S1 H => ?_
  have H : Cx B0 W S1 (pMem m bl x rest ++ R) (.pt p 0 [I a, I (a + 1), I (a + 2), I (n : Int)] :: ro) := H
  have mp : Fct.pt p 0 [I a, I (a + 1), I (a + 2), I (n : Int)] ∈ (.pt p 0 [I a, I (a + 1), I (a + 2), I (n : Int)] :: ro) := List.Mem.head _
  refine wp_ldn (o := 0) (n := 4) H mp rfl ?_
  refine wp_callV H (sizedQ_ok (n := n) (by omega)) fun S2 H => ?_
  refine wp_notT ?_
  try(refine zz ?_;(repeat constructor);intro _)
  refine wp_ld (o := 0) H mp rfl ?_
  refine wp_call (wpC_mono (stM_ok (a := a) hx (by omega) (by omega) H) fun r S7 q => ?_)
  obtain ⟨y, m1, hv1, H⟩ := q
  try(refine zz ?_;(repeat constructor);intro _)
  refine wp_ld (o := 1) H mp rfl ?_
  refine wp_call (wpC_mono (stM_ok (a := a + 1) m1.good (by have := m1.n; omega) (by omega) H) fun r S7 q => ?_)
  obtain ⟨y2, m2, hv2, H⟩ := q
  try(refine zz ?_;(repeat constructor);intro _)
  refine wp_ld (o := 3) H mp rfl ?_
  have mm : Mv a (a + n + 2) 2 x y2 := (Mv.trans (lo := a) (hi := a + n + 2) (m1.mono (by omega) (by omega) (Int.le_refl _)) (m2.mono (by omega) (by omega) (Int.le_refl _))).mono (by omega) (by omega) (by omega)
  refine wp_bind (wp_loop (wpL_for n (fun i vs S' => ∃ y, vs = [I (i : Int)] ∧ Mv a (a + n + 2) (2 + i) x y ∧ (∀ k, a ≤ k ∧ k < a + i + 2 → y.word k = 0) ∧ Cx B0 W S' (pMem m bl y rest ++ R) (.pt p 0 [I a, I (a + 1), I (a + 2), I (n : Int)] :: ro)) ?_ ?_ ⟨y2, rfl, mm.mono (by omega) (by omega) (by omega), fun k hk => ?_, H⟩))
  · clear m1 m2 hv1 hv2 mm H
    rintro i vs S5 hlt ⟨y, rfl, my, hz, H⟩
    refine wp_lss_t (by omega) ?_
    try(refine zz ?_;(repeat constructor);intro _)
    refine wp_bind ?_
    try(refine zz ?_;(repeat constructor);intro _)
    refine wp_ld (o := 2) H mp rfl ?_
    refine wp_add64 (by omega) (by omega) ?_
    refine wp_call (wpC_mono (stM_ok (a := a + 2 + i) my.good (by have := my.n; omega) (by omega) H) fun r S7 q => ?_)
    obtain ⟨y2, m2, hv, H⟩ := q
    refine wp_ret ?_
    show wp EM _ _ _
    refine wp_add64 (by omega) (by omega) ?_
    refine wp_ret (.inl ⟨rfl, y2, rfl, (my.trans (m2.mono (by omega) (by omega) (Int.le_refl _))).mono (by omega) (by omega) (by omega), fun k hk => ?_, H⟩)
    by_cases e : k = a + 2 + i
    · subst e; exact hv ⟨by omega, by rw [my.len]; omega⟩
    · rw [m2.out _ (by omega)]; exact hz k (by omega)
  · rintro vs S5 ⟨y, rfl, my, hz, H⟩
    refine wp_lss_f (by omega) ?_
    try(refine zz ?_;(repeat constructor);intro _)
    refine wp_ret ⟨by simp, ?_⟩
    show wp EM _ _ _
    exact wp_ret ⟨rfl, y, my.mono (by omega) (by omega) (by omega), fun k hk => hz k (by omega), H.tl⟩
  · by_cases e : k = a + 1
    · subst e; exact hv2 ⟨by omega, by rw [m1.len]; omega⟩
    · have e2 : k = a := by omega
      subst e2
      rw [m2.out _ (by omega)]
      exact hv1 ⟨by omega, by omega⟩
theorem fillR_ok {r : Int} (hx : x.good) (hn : x.n ≤ 300000) (hC : 1 ≤ C ∧ C ≤ 64) (hr : 0 ≤ r ∧ r ≤ 90000) (hlen : r + 2 * C ≤ x.ws.length) (H : Cx B0 W S (pMem m bl x rest ++ R) ro) :
    wpC EM (.fn (.func 80) [] []) [.agg [I r, I (r + C), I (C : Int)], .ptr m 0] S fun _ S' => ∃ y, Mv r (r + 2 * C) (2 * C) x y ∧ (∀ k : Nat, k < C → y.word (r + k) = 18446744073709551615 ∧ y.word (r + C + k) = 0) ∧ Cx B0 W S' (pMem m bl y rest ++ R) ro := by
  refine wpC_fn (b := Tryz.a80) rfl rfl ?_
  rw [Tryz.u80]
  refine wp_box H rfl fun p S1 H => ?_
  have H : Cx B0 W S1 (pMem m bl x rest ++ R) (.pt p 0 [I r, I (r + C), I (C : Int)] :: ro) := H
  have mp : Fct.pt p 0 [I r, I (r + C), I (C : Int)] ∈ (.pt p 0 [I r, I (r + C), I (C : Int)] :: ro) := List.Mem.head _
  refine wp_ldn (o := 0) (n := 3) H mp rfl ?_
  refine wp_callV H (sizedR_ok (n := C) (by omega)) fun S2 H => ?_
  refine wp_notT ?_
  try(refine zz ?_;(repeat constructor);intro _)
  refine wp_ld (o := 2) H mp rfl ?_
  refine wp_bind (wp_loop (wpL_for C (fun i vs S' => ∃ y, vs = [I (i : Int)] ∧ Mv r (r + 2 * C) (2 * i) x y ∧ (∀ k : Nat, k < i → y.word (r + k) = 18446744073709551615 ∧ y.word (r + C + k) = 0) ∧ Cx B0 W S' (pMem m bl y rest ++ R) (.pt p 0 [I r, I (r + C), I (C : Int)] :: ro)) ?_ ?_ ⟨x, rfl, Mv.refl hx, fun k hk => by omega, H⟩))
  · clear H
    rintro i vs S5 hlt ⟨y, rfl, my, hz, H⟩
    refine wp_lss_t (by omega) ?_
    try(refine zz ?_;(repeat constructor);intro _)
    refine wp_bind ?_
    try(refine zz ?_;(repeat constructor);intro _)
    refine wp_ld (o := 0) H mp rfl ?_
    refine wp_add64 (by omega) (by omega) ?_
    refine wp_call (wpC_mono (stM_ok (a := r + i) my.good (by have := my.n; omega) (by omega) H) fun _ S7 q => ?_)
    obtain ⟨y2, m2, hv, H⟩ := q
    try(refine zz ?_;(repeat constructor);intro _)
    refine wp_ld (o := 1) H mp rfl ?_
    refine wp_add64 (by omega) (by omega) ?_
    refine wp_call (wpC_mono (stM_ok (a := r + C + i) m2.good (by have := my.n; have := m2.n; omega) (by omega) H) fun _ S8 q => ?_)
    obtain ⟨y3, m3, hv3, H⟩ := q
    refine wp_ret ?_
    show wp EM _ _ _
    refine wp_add64 (by omega) (by omega) ?_
    refine wp_ret (.inl ⟨rfl, y3, rfl, ((my.trans (m2.mono (by omega) (by omega) (Int.le_refl _))).trans (m3.mono (by omega) (by omega) (Int.le_refl _))).mono (by omega) (by omega) (by omega), fun k hk => ?_, H⟩)
    by_cases e : k = i
    · subst e
      refine ⟨?_, hv3 ⟨by omega, by rw [m2.len, my.len]; omega⟩⟩
      rw [m3.out _ (by omega)]
      exact hv ⟨by omega, by rw [my.len]; omega⟩
    · rw [m3.out (r + k) (by omega), m3.out (r + C + k) (by omega), m2.out (r + k) (by omega), m2.out (r + C + k) (by omega)]; exact hz k (by omega)
  · rintro vs S5 ⟨y, rfl, my, hz, H⟩
    refine wp_lss_f (by omega) ?_
    try(refine zz ?_;(repeat constructor);intro _)
    refine wp_ret ⟨by simp, ?_⟩
    show wp EM _ _ _
    exact wp_ret ⟨rfl, y, my.mono (by omega) (by omega) (by omega), hz, H.tl⟩
end
end Go.Abs.X
set_option linter.unusedSectionVars false
namespace Go.Abs.X
variable [Ek]
open Go.Proofs
set_option maxRecDepth 100000
set_option linter.unusedVariables false
open Tsk (Tk tks tchk)
section
variable {B0 S : AH} {W : List Nat} {own R : List Own} {ro : List Fct} {Q : Post} {k : AV → AC} {m bl : Nat} {x : Me} {rest : List AV} {N C h n J Rm : Nat} {lim : Int}
theorem fillM_ok {a : Int} (hx : x.good) (hn : x.n ≤ 200000) (hq : mailQ a C Rm) (hlen : a + C * (Rm + 2) ≤ x.ws.length) (H : Cx B0 W S (pMem m bl x rest ++ R) ro) :
    wpC EM (.fn (.func 79) [] []) [.agg [I a, I (C : Int), I (Rm : Int)], .ptr m 0] S fun r S' => ∃ y, Mv a (a + C * (Rm + 2)) (C * (Rm + 2)) x y ∧ (∀ k, a ≤ k ∧ k < a + C * (Rm + 2) → y.word k = 0) ∧ Cx B0 W S' (pMem m bl y rest ++ R) ro := by
  refine wpC_fn (b := Tryz.a79) rfl rfl ?_
  have hq2 := hq
  unfold mailQ mailP at hq2
  have hmul : ∀ i : Nat, i ≤ C → 0 ≤ (i : Int) * (Rm + 2) ∧ (i : Int) * (Rm + 2) ≤ C * (Rm + 2) ∧ (C : Int) * (Rm + 2) ≤ 1152 := by
    intro i hi
    have h1 := mul_bd (a := (i : Int)) (b := (Rm : Int) + 2) (A := C) (C := (Rm : Int) + 2) (by omega) (by omega) (by omega) (Int.le_refl _)
    have h2 := mul_bd (a := (C : Int)) (b := (Rm : Int) + 2) (A := 64) (C := 18) (by omega) (by omega) (by omega) (by omega)
    exact ⟨h1.1, h1.2, by omega⟩
  have hsucc : ∀ i : Nat, ((i + 1 : Nat) : Int) * (Rm + 2) = (i : Int) * (Rm + 2) + (Rm + 2) := by
    intro i
    rw [show ((i + 1 : Nat) : Int) = (i : Int) + 1 by omega, Int.add_mul]; omega
  unfold Tryz.a79 Tryz.a79x2 
  refine wp_box H rfl fun p S1 H => ?_
  refine wp_box H rfl fun pm S1 H => ?_
  have H : Cx B0 W S1 (pMem m bl x rest ++ R) (.pt pm 0 [.ptr m 0] :: .pt p 0 [I a, I (C : Int), I (Rm : Int)] :: ro) := H
  refine wp_ldn (o := 0) (n := 3) (cs := [I a, I (C : Int), I (Rm : Int)]) H (by repeat (first | exact List.Mem.head _ | apply List.Mem.tail)) rfl ?_
  refine wp_callV H (sizedM_ok (a := a) (n := C) (r := Rm)) fun S2 H => ?_
  rw [decide_eq_true hq.1]
  refine wp_notT ?_
  try(refine zz ?_;(repeat constructor);intro _)
  refine wp_ldn (o := 0) (n := 3) (cs := [I a, I (C : Int), I (Rm : Int)]) H (by repeat (first | exact List.Mem.head _ | apply List.Mem.tail)) rfl ?_
  refine wp_call (wpC_fn (b := Tryz.a108) rfl rfl ?_)
  rw [Tryz.u108]
  refine wp_box H rfl fun pb S4 H => ?_
  have H : Cx B0 W S4 (pMem m bl x rest ++ R) (.pt pb 0 [I a, I (C : Int), I (Rm : Int)] :: .pt pm 0 [.ptr m 0] :: .pt p 0 [I a, I (C : Int), I (Rm : Int)] :: ro) := H
  have back : ∀ {S own}, Cx B0 W S own (.pt pb 0 [I a, I (C : Int), I (Rm : Int)] :: .pt pm 0 [.ptr m 0] :: .pt p 0 [I a, I (C : Int), I (Rm : Int)] :: ro) → Cx B0 W S own ro := fun H => H.tl.tl.tl
  have mb : Fct.pt pb 0 [I a, I (C : Int), I (Rm : Int)] ∈ (.pt pb 0 [I a, I (C : Int), I (Rm : Int)] :: .pt pm 0 [.ptr m 0] :: .pt p 0 [I a, I (C : Int), I (Rm : Int)] :: ro) := by repeat (first | exact List.Mem.head _ | apply List.Mem.tail)
  have mm : Fct.pt pm 0 [.ptr m 0] ∈ (.pt pb 0 [I a, I (C : Int), I (Rm : Int)] :: .pt pm 0 [.ptr m 0] :: .pt p 0 [I a, I (C : Int), I (Rm : Int)] :: ro) := by repeat (first | exact List.Mem.head _ | apply List.Mem.tail)
  generalize (Fct.pt pb 0 [I a, I (C : Int), I (Rm : Int)] :: .pt pm 0 [.ptr m 0] :: .pt p 0 [I a, I (C : Int), I (Rm : Int)] :: ro) = ro1 at H back mb mm
  refine wp_ret ⟨rfl, ?_⟩
  show wp EM _ _ _
  refine wp_bind (wp_rngO H (by intro i e; cases e) (fun S' => ∃ y, Mv a (a + C * (Rm + 2)) (C * (Rm + 2)) x y ∧ (∀ k, a ≤ k ∧ k < a + C * (Rm + 2) → y.word k = 0) ∧ Cx B0 W S' (pMem m bl y rest ++ R) ro1) ?_ ?_)
  · intro l S5 HL
    clear H
    refine wpC_fn (b := Tryz.a157) rfl rfl ?_
    rw [Tryz.u157]
    try(refine zz ?_;(repeat constructor);intro _)
    refine wp_ld (o := 1) HL mb rfl ?_
    refine wp_bind (wp_loop (wpL_for C (fun i vs S' => ∃ y, vs = [I (i : Int)] ∧ Mv a (a + C * (Rm + 2)) (i * (Rm + 2)) x y ∧ (∀ k, a ≤ k ∧ k < a + i * (Rm + 2) → y.word k = 0) ∧ Cx B0 W S' (.obj l (.loop .ready none 2 fun v8 => Tryz.a79x1 (.ptr pm 0) v8) :: (pMem m bl y rest ++ R)) ro1) ?_ ?_ ⟨x, rfl, (Mv.refl hx).mono (Int.le_refl _) (Int.le_refl _) (by omega), fun k hk => by omega, HL⟩))
    · clear HL
      rintro i vs S6 hlt ⟨y, rfl, my, hz, H⟩
      obtain ⟨m1, m2, m3, m4⟩ := ringAt_bd (c := (i : Int)) hq (by omega) (by omega)
      have hm1 := hmul i (by omega)
      have hm2 := hmul (i + 1) (by omega)
      have hs := hsucc i
      refine wp_lss_t (by omega) ?_
      try(refine zz ?_;(repeat constructor);intro _)
      refine wp_bind ?_
      try(refine zz ?_;(repeat constructor);intro _)
      refine wp_ld (o := 0) H mb rfl ?_
      try(refine zz ?_;(repeat constructor);intro _)
      refine wp_ld (o := 2) H mb rfl ?_
      refine wp_add64 (by omega) (by omega) ?_
      refine wp_mul64 (by omega) (by omega) ?_
      refine wp_add64 (by omega) (by omega) ?_
      have e : a + (i : Int) * ((Rm : Int) + 2) = ringAt a Rm i := rfl
      rw [e]
      refine wp_add64 (by omega) (by omega) ?_
      refine wp_add64 (by omega) (by omega) ?_
      try(refine zz ?_;(repeat constructor);intro _)
      refine wp_ld (o := 2) H mb rfl ?_
      refine wp_op (v := .agg (ringCs a Rm i)) rfl ?_
      refine wp_call (wpC_mono (wpC_ydO (R := fun S' => ∃ y, Mv a (a + C * (Rm + 2)) ((i + 1 : Nat) * (Rm + 2)) x y ∧ (∀ k, a ≤ k ∧ k < a + (i + 1 : Nat) * (Rm + 2) → y.word k = 0) ∧ Cx B0 W S' (.obj l (.loop .ready none 2 fun v8 => Tryz.a79x1 (.ptr pm 0) v8) :: (pMem m bl y rest ++ R)) ro1) H 0 rfl rfl ?_) fun u2 S17 q => ?_)
      · unfold Tryz.a79x1 Tryz.a79x0 
        refine wp_alloc H fun z S7 H => ?_
        refine wp_store (n := 4) H 0 (c := [I 0, I 0, I 0, I 0]) rfl rfl rfl (by simp) fun S8 H => ?_
        have H := H.freeze (i := 0) rfl
        have H : Cx B0 W S8 (.obj l (.loop .ready none 2 fun v8 => Tryz.a79x1 (.ptr pm 0) v8) :: (pMem m bl y rest ++ R)) (.pt z 0 (ringCs a Rm i) :: ro1) := H
        refine wp_startO H 0 rfl fun S9 H => ?_
        refine wp_bind ?_
        refine wp_ldn (o := 0) (n := 4) (cs := ringCs a Rm i) H (List.Mem.head _) rfl ?_
        refine wp_ld (o := 0) H (List.mem_cons_of_mem _ mm) rfl ?_
        refine wp_call (wpC_mono (fillQ_ok (a := ringAt a Rm i) (n := Rm) my.good (by have := my.n; omega) (by omega) (by omega) (by rw [my.len, ← e]; omega) (H.permS swap1)) fun r S7 q => ?_)
        obtain ⟨y2, m2, hz2, H⟩ := q
        refine wp_ret ?_
        show wp EM _ _ _
        refine wp_ret ⟨rfl, _, _, H.permS swap1.symm, rfl, fun S2 H => ⟨y2, (my.trans (m2.mono (by omega) (by rw [← e]; omega) (Int.le_refl _))).mono (by omega) (by omega) (by rw [hs]; omega), fun k hk => ?_, H.tl⟩⟩
        by_cases hk2 : ringAt a Rm i ≤ k
        · refine hz2 k ⟨hk2, ?_⟩
          rw [← e]; omega
        · rw [m2.out _ (by omega)]
          exact hz k (by rw [← e] at hk2; omega)
      · obtain ⟨rfl, y2, my2, hz2, H⟩ := q
        refine wp_notT ?_
        try(refine zz ?_;(repeat constructor);intro _)
        refine wp_ret ?_
        show wp EM _ _ _
        refine wp_add64 (by omega) (by omega) ?_
        exact wp_ret (.inl ⟨rfl, y2, rfl, my2, hz2, H⟩)
    · rintro vs S6 ⟨y, rfl, my, hz, H⟩
      refine wp_lss_f (by omega) ?_
      try(refine zz ?_;(repeat constructor);intro _)
      refine wp_ret ⟨by simp, ?_⟩
      show wp EM _ _ _
      exact wp_ret ⟨rfl, H.oh _ (List.Mem.head _), fun S2 g1 g2 => ⟨y, my, hz, H.other (n := 0) rfl g1 g2⟩⟩
  · rintro S5 ⟨y, my, hz, H⟩
    refine wp_ret ?_
    show wp EM _ _ _
    exact wp_ret ⟨rfl, y, my, hz, back H⟩
structure Laid (N C h n J Rm : Nat) (j m r : Int) (y : Me) : Prop where
  good : y.good
  hd : ∀ k : Nat, k < h → y.word (6 + 2 * N + C + k) = 0
  st : ∀ k : Nat, k < J → y.word (j + k) = 4294967297
  ml : ∀ k, m ≤ k ∧ k < m + C * (Rm + 2) → y.word k = 0
  rn : ∀ k : Nat, k < C → y.word (r + k) = 18446744073709551615 ∧ y.word (r + C + k) = 0
  ow : ∀ k : Nat, k < C → y.word (r + 2 * C + k) = 0
theorem exV_ok {g j m r : Int} {l : List Tk} (L : Lx N C h n J Rm lim g j m r) (hl2 : l.length = n) (hc : tchk l = 0) : (exV N C h n J Rm lim g j m r).ok l := by
  obtain ⟨hN, hC, hh, hn, hJ, hR, hl, hP, hM, hg, hj, hm, hr⟩ := L
  have e1 : ((N * (4 + h) : Nat) : Int) = N * (4 + h) := by simp
  have e2 : ((C * (Rm + 2) : Nat) : Int) = C * (Rm + 2) := by simp
  unfold Ex.ok cellP exV
  refine ⟨toL_ok hN hC.2 hh, hc, by omega, ?_⟩
  dsimp only [toL]
  refine ⟨by omega, by omega, by omega, by omega, by omega, by omega, by omega, by omega, by omega, ?_⟩
  omega
theorem fillX_ok {g j mf r : Int} {l : List Tk} {u : AV} (L : Lx N C h n J Rm lim g j mf r) (hl2 : l.length = n) (hc : tchk l = 0) (hu : Fct.sl u 4 (tks l) ∈ ro) (hx : x.good) (hn0 : x.n = 0) (hlen : x.ws.length = r + 3 * C + 1) (H : Cx B0 W S (pMem m bl x rest ++ R) ro) :
    wpC EM (.fn (.func 44) [] []) [.agg ((exV N C h n J Rm lim g j mf r).cs u), .ptr m 0] S fun _ S' => ∃ y, y.ws.length = x.ws.length ∧ Laid N C h n J Rm j mf r y ∧ Cx B0 W S' (pMem m bl y rest ++ R) ro := by
  refine wpC_fn (b := Tryz.a44) rfl rfl ?_
  have hok := exV_ok L hl2 hc
  have huv := slOk_one (H.rh _ hu)
  obtain ⟨hN, hC, hh, hn, hJ, hR, hl, hP, hM, hg, hj, hm, hr⟩ := L
  have e1 : ((N * (4 + h) : Nat) : Int) = N * (4 + h) := by simp
  have e2 : ((C * (Rm + 2) : Nat) : Int) = C * (Rm + 2) := by simp
  rw [Tryz.u44]
  refine wp_box H rfl fun p S1 H => ?_
  have H : Cx B0 W S1 (pMem m bl x rest ++ R) (.pt p 0 ((exV N C h n J Rm lim g j mf r).cs u) :: ro) := H
  have mp : Fct.pt p 0 ((exV N C h n J Rm lim g j mf r).cs u) ∈ (.pt p 0 ((exV N C h n J Rm lim g j mf r).cs u) :: ro) := List.Mem.head _
  refine wp_ldn (o := 0) (n := 29) H mp rfl ?_
  refine wp_callV H (soundE_ok (e := exV N C h n J Rm lim g j mf r) (List.mem_cons_of_mem _ hu) H) fun S2 H => ?_
  rw [decide_eq_true hok]
  refine wp_notT ?_
  try(refine zz ?_;(repeat constructor);intro _)
  refine wp_ldn (o := 0) (n := 13) H mp rfl ?_
  refine wp_call (wpC_mono (fillT_ok (N := N) (C := C) (h := h) (lim := lim) hx (by omega) hN hC hh (by omega) H) fun _ S4 q => ?_)
  obtain ⟨y1, m1, z1, H⟩ := q
  have n1 := m1.n
  try(refine zz ?_;(repeat constructor);intro _)
  refine wp_ldn (o := 13) (n := 2) H mp rfl ?_
  refine wp_call (wpC_mono (fillG_ok (n := n) (g := g) m1.good (by omega) hn (by omega) H) fun _ S4 q => ?_)
  obtain ⟨y2, m2, H⟩ := q
  have n2 := m2.n
  try(refine zz ?_;(repeat constructor);intro _)
  refine wp_ldn (o := 15) (n := 5) H mp rfl ?_
  refine wp_call (wpC_mono (fillJ_ok (J := J) (j := j) m2.good (by omega) hJ (by omega) (by rw [m2.len, m1.len]; omega) H) fun _ S4 q => ?_)
  obtain ⟨y3, m3, z3, H⟩ := q
  have n3 := m3.n
  try(refine zz ?_;(repeat constructor);intro _)
  refine wp_ldn (o := 20) (n := 3) H mp rfl ?_
  refine wp_call (wpC_mono (fillM_ok (C := C) (Rm := Rm) (a := mf) m3.good (by omega) ⟨⟨by omega, by omega, by omega, by omega⟩, by omega, by omega⟩ (by rw [m3.len, m2.len, m1.len]; omega) H) fun _ S4 q => ?_)
  obtain ⟨y4, m4, z4, H⟩ := q
  have n4 := m4.n
  try(refine zz ?_;(repeat constructor);intro _)
  refine wp_ldn (o := 23) (n := 3) H mp rfl ?_
  refine wp_call (wpC_mono (fillR_ok (C := C) (r := r) m4.good (by omega) hC (by omega) (by rw [m4.len, m3.len, m2.len, m1.len]; omega) H) fun _ S4 q => ?_)
  obtain ⟨y5, m5, z5, H⟩ := q
  have n5 := m5.n
  have l5 : y5.ws.length = x.ws.length := by rw [m5.len, m4.len, m3.len, m2.len, m1.len]
  try(refine zz ?_;(repeat constructor);intro _)
  refine wp_ld (o := 25) H mp rfl ?_
  refine wp_bind (wp_loop (wpL_for C (fun i vs S' => ∃ y, vs = [I (i : Int)] ∧ Mv (r + 2 * C) (r + 3 * C) i y5 y ∧ (∀ k : Nat, k < i → y.word (r + 2 * C + k) = 0) ∧ Cx B0 W S' (pMem m bl y rest ++ R) (.pt p 0 ((exV N C h n J Rm lim g j mf r).cs u) :: ro)) ?_ ?_ ⟨y5, rfl, Mv.refl m5.good, fun k hk => by omega, H⟩))
  · clear H
    rintro i vs S5 hlt ⟨y, rfl, my, hz, H⟩
    refine wp_lss_t (by show (i : Int) < (C : Int); omega) ?_
    try(refine zz ?_;(repeat constructor);intro _)
    refine wp_bind ?_
    try(refine zz ?_;(repeat constructor);intro _)
    refine wp_ld (o := 26) H mp rfl ?_
    refine wp_add64 (by show _ ≤ (r + 2 * C + i : Int); omega) (by show (r + 2 * C + i : Int) ≤ _; omega) ?_
    refine wp_call (wpC_mono (stM_ok (a := r + 2 * C + i) my.good (by have := my.n; omega) (by omega) H) fun _ S7 q => ?_)
    obtain ⟨y7, m7, hv, H⟩ := q
    refine wp_ret ?_
    show wp EM _ _ _
    refine wp_add64 (by omega) (by omega) ?_
    refine wp_ret (.inl ⟨rfl, y7, rfl, (my.trans (m7.mono (by omega) (by omega) (Int.le_refl _))).mono (by omega) (by omega) (by omega), fun k hk => ?_, H⟩)
    by_cases e : k = i
    · subst e; exact hv ⟨by omega, by rw [my.len, l5]; omega⟩
    · rw [m7.out _ (by omega)]; exact hz k (by omega)
  · rintro vs S5 ⟨y6, rfl, m6, z6, H⟩
    have n6 := m6.n
    refine wp_lss_f (by show (C : Int) ≤ (C : Int); omega) ?_
    try(refine zz ?_;(repeat constructor);intro _)
    refine wp_ret ⟨by simp, ?_⟩
    show wp EM _ _ _
    try(refine zz ?_;(repeat constructor);intro _)
    refine wp_ld (o := 27) H mp rfl ?_
    refine wp_call (wpC_mono (stM_ok (a := r + 3 * C) m6.good (by omega) (by omega) H) fun _ S7 q => ?_)
    obtain ⟨y7, m7, _, H⟩ := q
    refine wp_ret ⟨rfl, y7, by rw [m7.len, m6.len, l5], ⟨m7.good, fun k hk => ?_, fun k hk => ?_, fun k hk => ?_, fun k hk => ?_, fun k hk => ?_⟩, H.tl⟩
    · rw [m7.out _ (by omega), m6.out _ (by omega), m5.out _ (by omega), m4.out _ (by omega), m3.out _ (by omega), m2.out _ (by omega)]; exact z1 k hk
    · rw [m7.out _ (by omega), m6.out _ (by omega), m5.out _ (by omega), m4.out _ (by omega)]; exact z3 k hk
    · rw [m7.out _ (by omega), m6.out _ (by omega), m5.out _ (by omega)]; exact z4 k hk
    · rw [m7.out _ (by omega), m6.out _ (by omega), m7.out _ (by omega), m6.out _ (by omega)]; exact z5 k hk
    · rw [m7.out _ (by omega)]; exact z6 k hk
end
end Go.Abs.X
