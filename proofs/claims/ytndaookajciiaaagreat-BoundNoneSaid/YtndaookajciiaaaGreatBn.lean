/- BoundNone, run in pieces: picks, of them none, or some; a most of 0, above, below. No condition. -/
import Derived.Test.YtndaookajciiaaaGreatU
set_option linter.unusedVariables false
set_option maxRecDepth 1000000
namespace Go.Abs
open Go.Proofs
noncomputable def EM : Mach := ⟨Tryz.prog, Tryz.tbl, ⟨knV [(7, .bool true)], noKn.x⟩⟩
theorem hx : ∀ f g, EM.kn.x f = some g → ∀ xs, Ups (g xs) := fun f g h => by cases h
noncomputable def q5x14 (v0 : List AV) (v5 : AV) (v6 : AV) (v9 : AV) (v10 : AV) (v11 : AV) (v12 : AV) : AC := .gop v11 false (.bin .neq v12 (I 0)) fun v13 => .op (.pick v11 (B true) v13) fun v14 => .gop v14 false (.mv v9) fun v15 => .gop v14 false (.eq 55 false v15 Np) fun v16 => .op (.pick v14 (B true) v16) fun v17 => .ret .normal [v5, v6, v9, v10, v17]
noncomputable def q5x15 (v0 : List AV) (v3 : AV) (v4 : AV) (v5 : AV) (v6 : AV) : AC := .op (.store 29 v6 v3) fun v7 => .call (.fn (.func 18) [] []) [v4] fun v8 => .op (.extract 0 v8) fun v9 => .op (.extract 1 v8) fun v10 => .op (.bin .neq v5 (I 0)) fun v11 => .gop v11 false (.mv v10) fun v12 => (q5x14 v0 v5 v6 v9 v10 v11 v12)
noncomputable def q5 : List AV → AC := fun v0 => .call (.fn (.func 17) [] []) [] fun v1 => .call (.fn (.func 16) [] []) [v1] fun v2 => .op (.extract 0 v2) fun v3 => .op (.extract 1 v2) fun v4 => .op (.extract 2 v2) fun v5 => .op (.alloc [(I 0), (I 0), (I 0), (I 0), (I 0), (I 0), (I 0), (I 0), (I 0), (I 0), (I 0), (I 0), (I 0), (I 0), (I 0), (I 0), (I 0), (I 0), (I 0), (I 0), (I 0), (I 0), (I 0), (I 0), (I 0), (I 0), (I 0), (I 0), Ns]) fun v6 => (q5x15 v0 v3 v4 v5 v6)
noncomputable def q5x9 (v0 : List AV) (v6 : AV) (v9 : AV) (v24 : AV) (v31 : AV) (v32 : AV) (v34 : AV) (v35 : AV) (v37 : AV) (v39 : AV) (v40 : AV) : AC := .op (.extract 1 v39) fun v41 => .op (.bslice 1 1 [Np] [(0, 1, v37)]) fun v42 => .ret .normal [v6, v9, v24, v31, v32, v34, v35, v40, v41, v42]
noncomputable def q5x10 (v0 : List AV) (v6 : AV) (v9 : AV) (v24 : AV) (v31 : AV) (v32 : AV) (v33 : AV) (v34 : AV) : AC := .op (.extract 1 v33) fun v35 => .op (.load 29 true v6) fun v36 => .call (.fn (.func 23) [] []) [v36, (I 0)] fun v37 => .op (.bslice 1 1 [Np] [(0, 1, v37)]) fun v38 => .call (.fn (.func 22) [] []) [v38, v9, Ns, (nth v0 1)] fun v39 => .op (.extract 0 v39) fun v40 => (q5x9 v0 v6 v9 v24 v31 v32 v34 v35 v37 v39 v40)
noncomputable def q5x11 (v0 : List AV) (v6 : AV) (v9 : AV) (v24 : AV) (v26 : AV) (v28 : AV) : AC := .op (.bslice 1 3 [Np] [(0, 1, Np), (1, 1, v28), (2, 1, v26)]) fun v29 => .call (.fn (.func 22) [] []) [v29, v9, (nth v0 0), (nth v0 1)] fun v30 => .op (.extract 0 v30) fun v31 => .op (.extract 1 v30) fun v32 => .call (.fn (.func 22) [] []) [Ns, v9, (nth v0 0), (nth v0 1)] fun v33 => .op (.extract 0 v33) fun v34 => (q5x10 v0 v6 v9 v24 v31 v32 v33 v34)
noncomputable def q5x12 (v0 : List AV) (v6 : AV) (v9 : AV) (v22 : AV) : AC := .call (.fn (.func 19) [] []) [v22, v9] fun v23 => .call (.fn (.func 20) [] []) [v9] fun v24 => .op (.load 29 true v6) fun v25 => .call (.fn (.func 21) [] []) [v25, (I 9), (I 1)] fun v26 => .op (.build [(I 0), (I 0), (I 0), (I 0), (I 0), (I 0), (I 0), (I 0), (I 0), (I 0), (I 0), (I 0), (I 0), (I 0), (I 0), (I 0), (I 0), (I 0), (I 0), (I 0), (I 0), (I 0), (I 0), (I 0), (I 0), (I 0), (I 0), (I 0), Ns, (I 0), (I 0), Ns, Ns, (I 0), (U 0), (U 0), (B false), (U 0), (I 0)] []) fun v27 => .op (.box v27) fun v28 => (q5x11 v0 v6 v9 v24 v26 v28)
theorem pre_ret {k : List AV → AC} {x : AC} {vs : List AV} (h : x = k vs) : Pre k x (.ret .normal vs) := by rw [h]; exact Pre.ret vs
noncomputable def bk1 (v0 : List AV) : List AV → AC := fun vs => .gop (nth vs 4) false (.mv (nth v0 0)) fun v18 => Tryz.a5x13 v0 (nth vs 0) (nth vs 1) (nth vs 2) (nth vs 3) (nth vs 4) v18
noncomputable def bk2 (v0 : List AV) : List AV → AC := fun vs => .call (.fn (.func 24) [] []) [(nth v0 1), (I 9)] fun v43 => .op (.un .neg v43) fun v44 => .call (.fn (.func 22) [] []) [nth vs 9, nth vs 1, (nth v0 0), v44] fun v45 => .op (.extract 0 v45) fun v46 => Tryz.a5x8 (nth vs 0) (nth vs 1) (nth vs 2) (nth vs 3) (nth vs 4) (nth vs 5) (nth vs 6) (nth vs 7) (nth vs 8) v45 v46
noncomputable def bp1 (v0 : List AV) : AC := q5 v0
noncomputable def bx2 (v0 : List AV) (v6 v9 : AV) : AC := .op (.load 29 true v6) fun v22 => Tryz.a5x12 v0 v6 v9 v22
noncomputable def bp2 (v0 : List AV) (v6 v9 : AV) : AC := .op (.load 29 true v6) fun v22 => q5x12 v0 v6 v9 v22
noncomputable def bx3 (v0 : List AV) (v44 : AV) (vs : List AV) : AC := .call (.fn (.func 22) [] []) [nth vs 9, nth vs 1, (nth v0 0), v44] fun v45 => .op (.extract 0 v45) fun v46 => Tryz.a5x8 (nth vs 0) (nth vs 1) (nth vs 2) (nth vs 3) (nth vs 4) (nth vs 5) (nth vs 6) (nth vs 7) (nth vs 8) v45 v46
theorem bpre1 {v0 : List AV} : Pre (bk1 v0) (Tryz.a5 v0) (bp1 v0) := by
  unfold bp1 Tryz.a5 Tryz.a5x15 Tryz.a5x14 q5 q5x15 q5x14
  repeat' (first
    | exact Pre.stop _
    | (refine Pre.op ?_; intro v)
    | (refine Pre.gop ?_; intro v)
    | (refine Pre.call ?_; intro v)
    | (refine Pre.gcall ?_; intro v)
    | refine Pre.chk ?_
    | refine Pre.gchk ?_
    | refine Pre.ite ?_ ?_
    | exact pre_ret rfl
    | (refine Pre.bind ?_; intro vs))
theorem bpre2 {v0 : List AV} {v6 v9 : AV} : Pre (bk2 v0) (bx2 v0 v6 v9) (bp2 v0 v6 v9) := by
  unfold bx2 bp2 Tryz.a5x12 Tryz.a5x11 Tryz.a5x10 Tryz.a5x9 q5x12 q5x11 q5x10 q5x9
  repeat' (first
    | exact Pre.stop _
    | (refine Pre.op ?_; intro v)
    | (refine Pre.gop ?_; intro v)
    | (refine Pre.call ?_; intro v)
    | (refine Pre.gcall ?_; intro v)
    | refine Pre.chk ?_
    | refine Pre.gchk ?_
    | refine Pre.ite ?_ ?_
    | exact pre_ret rfl
    | (refine Pre.bind ?_; intro vs))
/-! ### what a piece ends with, and the rest -/
def isNm : Out → Bool
  | some (.normal, _, _) => true
  | _ => false
def vlO : Out → List AV
  | some (_, vs, _) => vs
  | _ => []
def stO : Out → AH
  | some (_, _, S) => S
  | _ => ⟨.e, 0⟩
theorem wp_comp {M : Mach} (hx : ∀ f g, M.kn.x f = some g → ∀ xs, Ups (g xs)) {k : List AV → AC} {x p : AC} {S0 T : AH} {Q : Post} (fuel : Nat) (hp : Pre k x p)
    (h : isNm (run M.P (callT M.P M.tbl M.kn fuel) fuel p S0) = true) (hs : Sub S0 T)
    (hk : ∀ T, Sub (stO (run M.P (callT M.P M.tbl M.kn fuel) fuel p S0)) T → wp M (k (vlO (run M.P (callT M.P M.tbl M.kn fuel) fuel p S0))) T Q) : wp M x T Q := by
  cases hr : run M.P (callT M.P M.tbl M.kn fuel) fuel p S0 with
  | none => rw [hr] at h; cases h
  | some q =>
    obtain ⟨t, vs, S'⟩ := q
    rw [hr] at h hk
    cases t with
    | normal =>
      obtain ⟨T', e, hs'⟩ := upo_run (ups_call hx fuel) p S0 T _ _ _ hs hr
      exact pre_wp hp (Go.Abs.wp_run fuel e ⟨rfl, hk T' hs'⟩)
    | _ => cases h
noncomputable def st0 (n : Nat) : AH := lit n []
theorem sub_st0 (S : AH) : Sub (st0 S.next) S := ⟨rfl, fun id o h => by obtain ⟨c, hc, _⟩ := lit_get h; cases hc⟩
noncomputable abbrev RUN (x : AC) (S : AH) : Out := run EM.P (callT EM.P EM.tbl EM.kn 4000000) 4000000 x S
noncomputable def R1 (n : Nat) (pk m : AV) : Out := RUN (bp1 [pk, m]) (st0 n)
noncomputable def R2 (n : Nat) (pk m : AV) : Out := RUN (bp2 [pk, m] (nth (vlO (R1 n pk m)) 1) (nth (vlO (R1 n pk m)) 2)) (stO (R1 n pk m))
noncomputable def R3 (n : Nat) (pk m z : AV) : Out := RUN (bx3 [pk, m] z (vlO (R2 n pk m))) (stO (R2 n pk m))
noncomputable def is1 (vs : List AV) : Bool := AV.beq (nth vs 0) (I 0) && (AV.beq (nth vs 3) (I 0) && AV.beq (nth vs 4) (B false))
def QT : Post := fun t vs _ => t = .ret ∧ oneOf vs = .sc (.bool true)
/-- the run, out of its pieces: n numbers are taken, picks pk, of them len, most m, z the most that is no most -/
theorem noneWp {T : AH} {pk : AV} {most : Int} {len : Nat} (hlen : ∀ T, evalOp EM.P (.len false pk) T = some (I (len : Int), T)) (h1 : isNm (R1 T.next pk (I most)) = true) (h1v : is1 (vlO (R1 T.next pk (I most))) = true)
    (h2 : isNm (R2 T.next pk (I most)) = true) (h3 : ∀ z : Int, z ≤ 0 → outTrue (R3 T.next pk (I most) (I z)) = true) : wp EM (Tryz.a5 [pk, I most]) T QT := by
  refine wp_comp hx 4000000 bpre1 h1 (sub_st0 T) fun T1 hT1 => ?_
  show wp EM (bk1 [pk, I most] (vlO (R1 T.next pk (I most)))) T1 QT
  unfold is1 at h1v
  simp only [Bool.and_eq_true] at h1v
  have e0 := beq_eq h1v.1
  have e3 := beq_eq h1v.2.1
  have e4 := beq_eq h1v.2.2
  unfold bk1
  rw [e0, e3, e4]
  refine wp_gop_t (wp_op rfl ?_)
  unfold Tryz.a5x13
  refine wp_gop_t (wp_op (hlen T1) ?_)
  refine wp_gop_t ?_
  refine wp_gtr (fun hbig => ?_) (fun hsm => ?_)
  · refine wp_op (v := B true) rfl (wp_ite_t ?_)
    refine wp_op (v := B true) rfl ?_
    unfold Tryz.a5x0
    refine wp_gop_t (wp_op (v := I 0) rfl ?_)
    refine wp_gop_t (wp_op (v := B true) rfl ?_)
    refine wp_op (v := B true) rfl ?_
    refine wp_gcall_t (wp_call (wpC_kn (v := B true) rfl ?_))
    exact wp_op (v := B true) rfl (wp_ret ⟨rfl, rfl⟩)
  · refine wp_op (v := B false) rfl (wp_ite_f ?_)
    refine wp_comp (x := bx2 [pk, I most] (nth (vlO (R1 T.next pk (I most))) 1) (nth (vlO (R1 T.next pk (I most))) 2)) hx 4000000 bpre2 h2 hT1 fun T2 hT2 => ?_
    show wp EM (bk2 [pk, I most] (vlO (R2 T.next pk (I most)))) T2 QT
    unfold bk2
    refine wp_call (wpC_mono (pick_ok (x := most) (n := 9) rfl rfl (by omega)) fun r S' q => ?_)
    obtain ⟨rfl, rfl⟩ := q
    have hz : ∃ z : Int, z ≤ 0 ∧ evalOp EM.P (.un .neg (I (pick most 9))) S' = some (I z, S') := by
      have h9 : pick most 9 = 0 ∨ pick most 9 = 1 ∨ pick most 9 = 2 ∨ pick most 9 = 3 ∨ pick most 9 = 4 ∨ pick most 9 = 5 ∨ pick most 9 = 6 ∨ pick most 9 = 7 ∨ pick most 9 = 8 := by
        unfold pick
        rw [if_neg (by decide)]
        omega
      rcases h9 with h | h | h | h | h | h | h | h | h <;> rw [h]
      · exact ⟨0, by omega, rfl⟩
      · exact ⟨-1, by omega, rfl⟩
      · exact ⟨-2, by omega, rfl⟩
      · exact ⟨-3, by omega, rfl⟩
      · exact ⟨-4, by omega, rfl⟩
      · exact ⟨-5, by omega, rfl⟩
      · exact ⟨-6, by omega, rfl⟩
      · exact ⟨-7, by omega, rfl⟩
      · exact ⟨-8, by omega, rfl⟩
    obtain ⟨z, hz0, hz1⟩ := hz
    refine wp_op hz1 ?_
    show wp EM (bx3 [pk, I most] (I z) (vlO (R2 T.next pk (I most)))) S' QT
    have hw := Go.Abs.wp_runTrue (M := EM) (x := bx3 [pk, I most] (I z) (vlO (R2 T.next pk (I most)))) (S := stO (R2 T.next pk (I most))) 4000000 (h3 z hz0)
    exact wp_part hx (fun t vs S T q hs => q) hT2 hw
theorem r1e0   : isNm (R1 0 Ns (I (Int.ofNat 0))) = true := by kernel_rfl
theorem v1e0   : is1 (vlO (R1 0 Ns (I (Int.ofNat 0)))) = true := by kernel_rfl
theorem r2e0   : isNm (R2 0 Ns (I (Int.ofNat 0))) = true := by kernel_rfl
theorem r3e00   : outTrue (R3 0 Ns (I (Int.ofNat 0)) (I (Int.ofNat 0))) = true := by kernel_rfl
theorem r3e0m   (z : Nat) : outTrue (R3 0 Ns (I (Int.ofNat 0)) (I (Int.negSucc z))) = true := by kernel_rfl
theorem r1ep  (m : Nat) : isNm (R1 0 Ns (I (Int.ofNat (Nat.succ m)))) = true := by kernel_rfl
theorem v1ep  (m : Nat) : is1 (vlO (R1 0 Ns (I (Int.ofNat (Nat.succ m))))) = true := by kernel_rfl
theorem r2ep  (m : Nat) : isNm (R2 0 Ns (I (Int.ofNat (Nat.succ m)))) = true := by kernel_rfl
theorem r3ep0  (m : Nat) : outTrue (R3 0 Ns (I (Int.ofNat (Nat.succ m))) (I (Int.ofNat 0))) = true := by kernel_rfl
theorem r3epm  (m : Nat) (z : Nat) : outTrue (R3 0 Ns (I (Int.ofNat (Nat.succ m))) (I (Int.negSucc z))) = true := by kernel_rfl
theorem r1em  (m : Nat) : isNm (R1 0 Ns (I (Int.negSucc m))) = true := by kernel_rfl
theorem v1em  (m : Nat) : is1 (vlO (R1 0 Ns (I (Int.negSucc m)))) = true := by kernel_rfl
theorem r2em  (m : Nat) : isNm (R2 0 Ns (I (Int.negSucc m))) = true := by kernel_rfl
theorem r3em0  (m : Nat) : outTrue (R3 0 Ns (I (Int.negSucc m)) (I (Int.ofNat 0))) = true := by kernel_rfl
theorem r3emm  (m : Nat) (z : Nat) : outTrue (R3 0 Ns (I (Int.negSucc m)) (I (Int.negSucc z))) = true := by kernel_rfl
theorem r1n0 (cap : Nat)  : isNm (R1 1 (.sl 0 0 0 cap) (I (Int.ofNat 0))) = true := by kernel_rfl
theorem v1n0 (cap : Nat)  : is1 (vlO (R1 1 (.sl 0 0 0 cap) (I (Int.ofNat 0)))) = true := by kernel_rfl
theorem r2n0 (cap : Nat)  : isNm (R2 1 (.sl 0 0 0 cap) (I (Int.ofNat 0))) = true := by kernel_rfl
theorem r3n00 (cap : Nat)  : outTrue (R3 1 (.sl 0 0 0 cap) (I (Int.ofNat 0)) (I (Int.ofNat 0))) = true := by kernel_rfl
theorem r3n0m (cap : Nat)  (z : Nat) : outTrue (R3 1 (.sl 0 0 0 cap) (I (Int.ofNat 0)) (I (Int.negSucc z))) = true := by kernel_rfl
theorem r1np (cap : Nat) (m : Nat) : isNm (R1 1 (.sl 0 0 0 cap) (I (Int.ofNat (Nat.succ m)))) = true := by kernel_rfl
theorem v1np (cap : Nat) (m : Nat) : is1 (vlO (R1 1 (.sl 0 0 0 cap) (I (Int.ofNat (Nat.succ m))))) = true := by kernel_rfl
theorem r2np (cap : Nat) (m : Nat) : isNm (R2 1 (.sl 0 0 0 cap) (I (Int.ofNat (Nat.succ m)))) = true := by kernel_rfl
theorem r3np0 (cap : Nat) (m : Nat) : outTrue (R3 1 (.sl 0 0 0 cap) (I (Int.ofNat (Nat.succ m))) (I (Int.ofNat 0))) = true := by kernel_rfl
theorem r3npm (cap : Nat) (m : Nat) (z : Nat) : outTrue (R3 1 (.sl 0 0 0 cap) (I (Int.ofNat (Nat.succ m))) (I (Int.negSucc z))) = true := by kernel_rfl
theorem r1nm (cap : Nat) (m : Nat) : isNm (R1 1 (.sl 0 0 0 cap) (I (Int.negSucc m))) = true := by kernel_rfl
theorem v1nm (cap : Nat) (m : Nat) : is1 (vlO (R1 1 (.sl 0 0 0 cap) (I (Int.negSucc m)))) = true := by kernel_rfl
theorem r2nm (cap : Nat) (m : Nat) : isNm (R2 1 (.sl 0 0 0 cap) (I (Int.negSucc m))) = true := by kernel_rfl
theorem r3nm0 (cap : Nat) (m : Nat) : outTrue (R3 1 (.sl 0 0 0 cap) (I (Int.negSucc m)) (I (Int.ofNat 0))) = true := by kernel_rfl
theorem r3nmm (cap : Nat) (m : Nat) (z : Nat) : outTrue (R3 1 (.sl 0 0 0 cap) (I (Int.negSucc m)) (I (Int.negSucc z))) = true := by kernel_rfl
theorem r1s0 (len cap : Nat)  : isNm (R1 1 (.sl 0 0 (Nat.succ len) cap) (I (Int.ofNat 0))) = true := by kernel_rfl
theorem v1s0 (len cap : Nat)  : is1 (vlO (R1 1 (.sl 0 0 (Nat.succ len) cap) (I (Int.ofNat 0)))) = true := by kernel_rfl
theorem r2s0 (len cap : Nat)  : isNm (R2 1 (.sl 0 0 (Nat.succ len) cap) (I (Int.ofNat 0))) = true := by kernel_rfl
theorem r3s00 (len cap : Nat)  : outTrue (R3 1 (.sl 0 0 (Nat.succ len) cap) (I (Int.ofNat 0)) (I (Int.ofNat 0))) = true := by kernel_rfl
theorem r3s0m (len cap : Nat)  (z : Nat) : outTrue (R3 1 (.sl 0 0 (Nat.succ len) cap) (I (Int.ofNat 0)) (I (Int.negSucc z))) = true := by kernel_rfl
theorem r1sp (len cap : Nat) (m : Nat) : isNm (R1 1 (.sl 0 0 (Nat.succ len) cap) (I (Int.ofNat (Nat.succ m)))) = true := by kernel_rfl
theorem v1sp (len cap : Nat) (m : Nat) : is1 (vlO (R1 1 (.sl 0 0 (Nat.succ len) cap) (I (Int.ofNat (Nat.succ m))))) = true := by kernel_rfl
theorem r2sp (len cap : Nat) (m : Nat) : isNm (R2 1 (.sl 0 0 (Nat.succ len) cap) (I (Int.ofNat (Nat.succ m)))) = true := by kernel_rfl
theorem r3sp0 (len cap : Nat) (m : Nat) : outTrue (R3 1 (.sl 0 0 (Nat.succ len) cap) (I (Int.ofNat (Nat.succ m))) (I (Int.ofNat 0))) = true := by kernel_rfl
theorem r3spm (len cap : Nat) (m : Nat) (z : Nat) : outTrue (R3 1 (.sl 0 0 (Nat.succ len) cap) (I (Int.ofNat (Nat.succ m))) (I (Int.negSucc z))) = true := by kernel_rfl
theorem r1sm (len cap : Nat) (m : Nat) : isNm (R1 1 (.sl 0 0 (Nat.succ len) cap) (I (Int.negSucc m))) = true := by kernel_rfl
theorem v1sm (len cap : Nat) (m : Nat) : is1 (vlO (R1 1 (.sl 0 0 (Nat.succ len) cap) (I (Int.negSucc m)))) = true := by kernel_rfl
theorem r2sm (len cap : Nat) (m : Nat) : isNm (R2 1 (.sl 0 0 (Nat.succ len) cap) (I (Int.negSucc m))) = true := by kernel_rfl
theorem r3sm0 (len cap : Nat) (m : Nat) : outTrue (R3 1 (.sl 0 0 (Nat.succ len) cap) (I (Int.negSucc m)) (I (Int.ofNat 0))) = true := by kernel_rfl
theorem r3smm (len cap : Nat) (m : Nat) (z : Nat) : outTrue (R3 1 (.sl 0 0 (Nat.succ len) cap) (I (Int.negSucc m)) (I (Int.negSucc z))) = true := by kernel_rfl
theorem zle {P : Int → Prop} (h0 : P (Int.ofNat 0)) (hm : ∀ z, P (Int.negSucc z)) : ∀ z : Int, z ≤ 0 → P z
  | .ofNat 0, _ => h0
  | .ofNat (n + 1), h => absurd h (by show ¬ ((n + 1 : Nat) : Int) ≤ 0; omega)
  | .negSucc n, _ => hm n
theorem noneWpe  : ∀ most : Int, wp EM (Tryz.a5 [Ns, I most]) ⟨.e, 0⟩ QT
  | .ofNat 0 => noneWp (T := ⟨.e, 0⟩) (len := 0) (fun _ => rfl) (r1e0  ) (v1e0  ) (r2e0  ) (zle (r3e00  ) (r3e0m  ))
  | .ofNat (m + 1) => noneWp (T := ⟨.e, 0⟩) (len := 0) (fun _ => rfl) (r1ep  m) (v1ep  m) (r2ep  m) (zle (r3ep0  m) (r3epm  m))
  | .negSucc m => noneWp (T := ⟨.e, 0⟩) (len := 0) (fun _ => rfl) (r1em  m) (v1em  m) (r2em  m) (zle (r3em0  m) (r3emm  m))
theorem noneWpn {c : List AV} {cap : Nat} : ∀ most : Int, wp EM (Tryz.a5 [(.sl 0 0 0 cap), I most]) (AH.new ⟨.e, 0⟩ (.ro c)) QT
  | .ofNat 0 => noneWp (T := (AH.new ⟨.e, 0⟩ (.ro c))) (len := 0) (fun _ => rfl) (r1n0 cap ) (v1n0 cap ) (r2n0 cap ) (zle (r3n00 cap ) (r3n0m cap ))
  | .ofNat (m + 1) => noneWp (T := (AH.new ⟨.e, 0⟩ (.ro c))) (len := 0) (fun _ => rfl) (r1np cap m) (v1np cap m) (r2np cap m) (zle (r3np0 cap m) (r3npm cap m))
  | .negSucc m => noneWp (T := (AH.new ⟨.e, 0⟩ (.ro c))) (len := 0) (fun _ => rfl) (r1nm cap m) (v1nm cap m) (r2nm cap m) (zle (r3nm0 cap m) (r3nmm cap m))
theorem noneWps {c : List AV} {len cap : Nat} : ∀ most : Int, wp EM (Tryz.a5 [(.sl 0 0 (Nat.succ len) cap), I most]) (AH.new ⟨.e, 0⟩ (.ro c)) QT
  | .ofNat 0 => noneWp (T := (AH.new ⟨.e, 0⟩ (.ro c))) (len := (Nat.succ len)) (fun _ => rfl) (r1s0 len cap ) (v1s0 len cap ) (r2s0 len cap ) (zle (r3s00 len cap ) (r3s0m len cap ))
  | .ofNat (m + 1) => noneWp (T := (AH.new ⟨.e, 0⟩ (.ro c))) (len := (Nat.succ len)) (fun _ => rfl) (r1sp len cap m) (v1sp len cap m) (r2sp len cap m) (zle (r3sp0 len cap m) (r3spm len cap m))
  | .negSucc m => noneWp (T := (AH.new ⟨.e, 0⟩ (.ro c))) (len := (Nat.succ len)) (fun _ => rfl) (r1sm len cap m) (v1sm len cap m) (r2sm len cap m) (zle (r3sm0 len cap m) (r3smm len cap m))
theorem boundNone_e (most : Int) : wpC EM (.fn (.func 5) [] []) [Ns, I most] ⟨.e, 0⟩ fun r _ => r = B true := wpC_fn (b := Tryz.a5) rfl rfl (noneWpe most)
theorem boundNone_s {c : List AV} {cap : Nat} (most : Int) : ∀ len : Nat, wpC EM (.fn (.func 5) [] []) [.sl 0 0 len cap, I most] (AH.new ⟨.e, 0⟩ (.ro c)) fun r _ => r = B true
  | 0 => wpC_fn (b := Tryz.a5) rfl rfl (noneWpn most)
  | len + 1 => wpC_fn (b := Tryz.a5) rfl rfl (noneWps most)
end Go.Abs
