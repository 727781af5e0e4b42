/- ExecSooner: its numbers go through a pick out of four; its words are the same for both. No condition. -/
import Derived.Test.YtippeihoaapmpaaGreatE
namespace Go.Proofs.YtippeihoaapmpaaGreat
open Go.Abs
set_option linter.unusedVariables false
set_option maxRecDepth 1000000
noncomputable def kn2 : Known := ⟨knV [(10, .bool true)], noKn.x⟩
theorem known2 [Tok] : KnOk Tryz.prog kn2 := ⟨knV_ok Tryz.tblOk known (fun x hx => by
  simp only [List.mem_cons, List.not_mem_nil, or_false] at hx
  rcases hx with rfl
  obtain ⟨S', h⟩ := isTrue_some ran10
  exact ⟨⟨4000000, S', h⟩, fun w => ent_of Tryz.func10 (by kernel_rfl) (by kernel_rfl) _ w⟩), noKn_ok.x⟩
theorem simSooner {x y : Int} : Sim (pickE 34) (Tryz.a12 [I x, I y]) (Tryz.a12 [I (pick x 4), I (pick y 4)]) := by
  unfold Tryz.a12
  simp only [nth]
  repeat' (first
    | with_reducible exact Sim.refl _
    | (refine Sim.swap ⟨rfl, _, _, by decide, rfl, rfl⟩ ?_; intro v)
    | (with_reducible refine Sim.op ?_; intro v)
    | (with_reducible refine Sim.gop ?_; intro v)
    | (with_reducible refine Sim.chk ?_)
    | (with_reducible refine Sim.gchk ?_)
    | (with_reducible refine Sim.ite ?_ ?_)
    | (with_reducible refine Sim.call ?_; intro v)
    | (with_reducible refine Sim.gcall ?_; intro v)
    | (with_reducible refine Sim.bind ?_ ?_; rotate_left; intro vs; rotate_right)
    | (with_reducible refine Sim.loop ?_; intro vs))
noncomputable def q12x26 (v1 : AV) (v3 : AV) (v5 : AV) (v12 : AV) : AC := .call (.fn (.func 67) [] []) [v12] fun v13 => .op (.eq 110 false v13 Np) fun v14 => .ite v14 (.ret .ret [(B false)]) (.ret .normal [v1, v3, v5, v13])
noncomputable def q12x27 (v1 : AV) (v3 : AV) (v5 : AV) (v6 : AV) : AC := .op (.build [(I 0), (I 0), (I 0), (I 0)] [(0, 1, (I 2)), (1, 1, (I 1))]) fun v7 => .op (.bslice 4 2 [(I 0), (I 0), (I 0), (I 0)] [(0, 4, v6), (4, 4, v7)]) fun v8 => .op (.build [(I 0), (I 0), (I 0), (I 0), (I 0), (I 0), Ns] [(0, 1, v3), (1, 1, (I 6)), (2, 1, (I 7)), (3, 1, (I 4)), (4, 1, (I 6)), (5, 1, (I 1000)), (6, 1, v8)]) fun v9 => .op (.alloc [(I 0), (I 0), (I 0), (I 0), (I 0), (I 0), Ns]) fun v10 => .op (.store 7 v10 v9) fun v11 => .op (.load 7 true v10) fun v12 => (q12x26 v1 v3 v5 v12)
noncomputable def q12 : List AV → AC := fun v0 => .call (.fn (.func 10) [] []) [] fun v1 => .call (.fn (.func 34) [] []) [(nth v0 0), (I 4)] fun v2 => .op (.bin .add (I 1) v2) fun v3 => .call (.fn (.func 34) [] []) [(nth v0 1), (I 4)] fun v4 => .op (.bin .add (I 1) v4) fun v5 => .op (.build [(I 0), (I 0), (I 0), (I 0)] [(0, 1, (I 2)), (1, 1, (I 9))]) fun v6 => (q12x27 v1 v3 v5 v6)
noncomputable def q12x17 (v1 : AV) (v5 : AV) (v13 : AV) (v36 : List AV) (v60 : AV) : AC := .gop v60 false (.mv v13) fun v61 => .gcall v60 false (.fn (.func 73) [] []) [v61] fun v62 => .gop v60 false (.un .not v62) fun v63 => .op (.pick v60 (B true) v63) fun v64 => .ite v64 (.ret .ret [(B false)]) (.ret .normal (v1 :: v5 :: v13 :: v36))
noncomputable def q12x18 (v1 : AV) (v5 : AV) (v13 : AV) (v36 : List AV) (v52 : AV) (v54 : AV) : AC := .gop v52 false (.un .not v54) fun v55 => .op (.pick v52 (B true) v55) fun v56 => .gop v56 false (.mv v13) fun v57 => .gcall v56 false (.fn (.func 69) [] []) [v57] fun v58 => .gop v56 false (.un .not v58) fun v59 => .op (.pick v56 (B true) v59) fun v60 => (q12x17 v1 v5 v13 v36 v60)
noncomputable def q12x19 (v1 : AV) (v5 : AV) (v13 : AV) (v36 : List AV) (v46 : AV) (v47 : AV) (v48 : AV) : AC := .gcall v46 false (.fn (.func 71) [] []) [v47, v48] fun v49 => .gop v46 false (.bin .shr v49 (U 56)) fun v50 => .gop v46 false (.bin .neq v50 (U 1)) fun v51 => .op (.pick v46 (B true) v51) fun v52 => .gop v52 false (.mv v13) fun v53 => .gcall v52 false (.fn (.func 72) [] []) [v53] fun v54 => (q12x18 v1 v5 v13 v36 v52 v54)
noncomputable def q12x20 (v1 : AV) (v5 : AV) (v13 : AV) (v36 : List AV) (v38 : AV) (v40 : AV) (v42 : AV) : AC := .op (.pick v40 (B true) v42) fun v43 => .gop v43 false (.mv v38) fun v44 => .gop v43 false (.bin .neq v44 (I 0)) fun v45 => .op (.pick v43 (B true) v45) fun v46 => .gop v46 false (.mv v13) fun v47 => .gop v46 false (.mv (nth v36 1)) fun v48 => (q12x19 v1 v5 v13 v36 v46 v47 v48)
noncomputable def q12x21 (v1 : AV) (v5 : AV) (v13 : AV) (v36 : List AV) : AC := .call (.fn (.func 68) [] []) [v13, (nth v36 1), (I 4), (I 0), v5] fun v37 => .op (.extract 0 v37) fun v38 => .op (.extract 1 v37) fun v39 => .op (.bin .neq (nth v36 2) (I 1)) fun v40 => .gop v40 false (.mv v39) fun v41 => .gop v40 false (.un .not v41) fun v42 => (q12x20 v1 v5 v13 v36 v38 v40 v42)
noncomputable def q12x22 (v1 : AV) (v3 : AV) (v5 : AV) (v13 : AV) (v15 : List AV) (v32 : AV) (v33 : AV) : AC := .gcall v32 false (.fn (.func 69) [] []) [v33] fun v34 => .op (.pick v32 (B true) v34) fun v35 => .ite v35 (.ret .ret [(B false)]) (.bind ((Tryz.a12x8 v3 v13)) (some 2) (fun v36 => (q12x21 v1 v5 v13 v36)) (fun v36 => [(nth v15 1)]))
noncomputable def q12x23 (v1 : AV) (v3 : AV) (v5 : AV) (v13 : AV) (v15 : List AV) (v21 : AV) (v26 : AV) (v27 : AV) : AC := .gop v26 false (.bin .neq v27 (I 0)) fun v28 => .op (.pick v26 (B true) v28) fun v29 => .gop v29 false (.mv v21) fun v30 => .gop v29 false (.bin .neq v30 (I 0)) fun v31 => .op (.pick v29 (B true) v31) fun v32 => .gop v32 false (.mv v13) fun v33 => (q12x22 v1 v3 v5 v13 v15 v32 v33)
noncomputable def q12x24 (v1 : AV) (v3 : AV) (v5 : AV) (v13 : AV) (v15 : List AV) (v18 : AV) (v19 : AV) (v20 : AV) (v21 : AV) : AC := .op (.extract 1 v20) fun v22 => .op (.un .not v19) fun v23 => .gop v23 false (.mv v22) fun v24 => .gop v23 false (.un .not v24) fun v25 => .op (.pick v23 (B true) v25) fun v26 => .gop v26 false (.mv v18) fun v27 => (q12x23 v1 v3 v5 v13 v15 v21 v26 v27)
noncomputable def q12x25 (v1 : AV) (v3 : AV) (v5 : AV) (v13 : AV) (v15 : List AV) : AC := .op (.bin .rem (I 1) v3) fun v16 => .call (.fn (.func 68) [] []) [v13, (I 0), (I 1), (I 1), v5] fun v17 => .op (.extract 0 v17) fun v18 => .op (.extract 1 v17) fun v19 => .call (.fn (.func 68) [] []) [v13, v16, (I 2), (I 1), v5] fun v20 => .op (.extract 0 v20) fun v21 => (q12x24 v1 v3 v5 v13 v15 v18 v19 v20 v21)
theorem pre_ret {k : List AV → AC} {x : AC} {vs : List AV} (h : x = k vs) : Pre k x (.ret .normal vs) := by rw [h]; exact Pre.ret vs
noncomputable def rp (v : AV) (n : Nat) (r : List AV) : List AV := Nat.rec (motive := fun _ => List AV) r (fun _ ih => v :: ih) n
noncomputable def EM2 : Mach := ⟨Tryz.prog, Tryz.tbl, kn2⟩
theorem hx2 : ∀ f g, EM2.kn.x f = some g → ∀ ar, Ups (g ar) := fun f g h => by cases h
noncomputable def k1 : List AV → AC := fun vs => .bind (Tryz.a12x5 (nth vs 1) (nth vs 2) (nth vs 3)) (some 0) (fun v15 => Tryz.a12x25 (nth vs 0) (nth vs 1) (nth vs 2) (nth vs 3) v15) (fun v15 => [nth v15 1])
noncomputable def k2 : List AV → AC := fun vs => Tryz.a12x16 (nth vs 0) (nth vs 1) (nth vs 2) (dropL 3 vs)
theorem pre1 {ar : List AV} : Pre k1 (Tryz.a12 ar) (q12 ar) := by
  unfold Tryz.a12 Tryz.a12x27 Tryz.a12x26 q12 q12x27 q12x26
  repeat' (first
    | exact Pre.stop _
    | (refine Pre.op ?_; intro v)
    | (refine Pre.gop ?_; intro v)
    | (refine Pre.call ?_; intro v)
    | (refine Pre.gcall ?_; intro v)
    | refine Pre.chk ?_
    | refine Pre.gchk ?_
    | refine Pre.ite ?_ ?_
    | exact pre_ret rfl
    | (refine Pre.bind ?_; intro vs))
theorem pre2 {v1 v3 v5 v13 : AV} {v15 : List AV} : Pre k2 (Tryz.a12x25 v1 v3 v5 v13 v15) (q12x25 v1 v3 v5 v13 v15) := by
  unfold Tryz.a12x25 Tryz.a12x24 Tryz.a12x23 Tryz.a12x22 Tryz.a12x21 Tryz.a12x20 Tryz.a12x19 Tryz.a12x18 Tryz.a12x17 q12x25 q12x24 q12x23 q12x22 q12x21 q12x20 q12x19 q12x18 q12x17
  repeat' (first
    | exact Pre.stop _
    | (refine Pre.op ?_; intro v)
    | (refine Pre.gop ?_; intro v)
    | (refine Pre.call ?_; intro v)
    | (refine Pre.gcall ?_; intro v)
    | refine Pre.chk ?_
    | refine Pre.gchk ?_
    | refine Pre.ite ?_ ?_
    | exact pre_ret rfl
    | (refine Pre.bind ?_; intro vs))
def QT : Post := fun t vs _ => t = .ret ∧ oneOf vs = .sc (.bool true)
noncomputable def bodyL (v3 v5 v13 : AV) : List AV → AC := fun v15 => .op (.bin .lss (nth v15 0) v3) fun v16 => .ite v16 ((Tryz.a12x4 v5 v13 v15)) (.ret (.exit 0) [(nth v15 0), (nth v15 1)])
noncomputable def LQ (v3 v5 v13 : AV) : Post := fun t vs S' => boundTo EM2 (some 0) (fun v15 => Tryz.a12x25 (B true) v3 v5 v13 v15) (fun v15 => [nth v15 1]) QT t [nth vs 0, nth vs 1] S'
noncomputable def rounds (body : List AV → AC) : Nat → List AV → AH → Out := Nat.rec (motive := fun _ => List AV → AH → Out) (fun vs S => some (.normal, vs, S)) fun _ ih vs S => goOn ih (run Tryz.prog (callT Tryz.prog Tryz.tbl kn2 4000000) 4000000 (body vs) S)
theorem rounds_wpL {body : List AV → AC} {Q : Post} : ∀ {m : Nat} {vs0 : List AV} {S0 T : AH} {vl : List AV} {S' : AH}, rounds body m vs0 S0 = some (.normal, vl, S') → Sub S0 T → (∀ T, Sub S' T → wpL EM2 body vl T Q) → wpL EM2 body vs0 T Q
  | 0, vs0, S0, T, vl, S', h, hs, hk => by cases h; exact hk T hs
  | m + 1, vs0, S0, T, vl, S', h, hs, hk => by
    have h' : goOn (rounds body m) (run Tryz.prog (callT Tryz.prog Tryz.tbl kn2 4000000) 4000000 (body vs0) S0) = some (.normal, vl, S') := h
    cases hq : run Tryz.prog (callT Tryz.prog Tryz.tbl kn2 4000000) 4000000 (body vs0) S0 with
    | none => rw [hq] at h'; cases h'
    | some q =>
      obtain ⟨t, vs, S1⟩ := q
      rw [hq] at h'
      obtain ⟨T1, e, hs1⟩ := upo_run (ups_call hx2 4000000) (body vs0) S0 T _ _ _ hs hq
      cases t with
      | normal => exact Go.Abs.wpL_step (Go.Abs.wp_run (M := EM2) 4000000 e (.inl ⟨rfl, rounds_wpL h' hs1 hk⟩))
      | _ => cases h'
theorem soonerFrom {c h : Int} {v3 v5 v13 : AV} {n0 : Nat} {l0 : List (Nat × List AV)} (h1 : endsAs [B true, v3, v5, v13] n0 l0 (run Tryz.prog (callT Tryz.prog Tryz.tbl kn2 4000000) 4000000 (q12 [I c, I h]) ⟨.e, 0⟩) = true)
    (h2 : ∀ T, Sub (lit n0 l0) T → wpL EM2 (bodyL v3 v5 v13) [I 0, B false] T (LQ v3 v5 v13)) : ∃ n, isTrue (callT Tryz.prog Tryz.tbl kn2 n (.fn (.func 12) [] []) [I c, I h] ⟨.e, 0⟩) = true := by
  refine Go.Abs.wpC_true (M := EM2) (Go.Abs.wpC_fn (b := Tryz.a12) rfl rfl ?_)
  exact Go.Abs.wp_cut hx2 4000000 pre1 h1 (Sub.refl _) fun T hT => Go.Abs.wp_bind (Go.Abs.wp_loop (h2 T hT))
theorem exitL {k : Int} {v5 v13 : AV} {T : AH} (h : wp EM2 (Tryz.a12x25 (B true) (I k) v5 v13 [I k, B false]) T QT) : wpL EM2 (bodyL (I k) v5 v13) [I k, B false] T (LQ (I k) v5 v13) := by
  refine Go.Abs.wpL_step (Go.Abs.wp_op (v := B (decide (k < k))) e_lss ?_)
  rw [decide_eq_false (by omega)]
  exact Go.Abs.wp_ite (Go.Abs.wp_ret (.inr ⟨by decide, h⟩))
theorem roundsL {v3 v5 v13 : AV} {vs0 : List AV} {S0 T : AH} {m : Nat} {vl : List AV} {n : Nat} {l : List (Nat × List AV)} (h : endsAs vl n l (rounds (bodyL v3 v5 v13) m vs0 S0) = true) (hs : Sub S0 T)
    (hk : ∀ T, Sub (lit n l) T → wpL EM2 (bodyL v3 v5 v13) vl T (LQ v3 v5 v13)) : wpL EM2 (bodyL v3 v5 v13) vs0 T (LQ v3 v5 v13) := by
  obtain ⟨S', e, hl⟩ := endsAs_some h
  exact rounds_wpL e hs fun T hT => hk T (hl.trans hT)
end Go.Proofs.YtippeihoaapmpaaGreat
