/- functions of this cut: what they compute, in the abstract machine. Conditions: stated in each theorem -/
import Derived.Test.YtbpgfafpkagmmaaGreatE3
set_option linter.unusedVariables false
set_option linter.unusedSimpArgs false
namespace Go.Abs
open Go.Proofs
set_option maxRecDepth 100000
set_option linter.unusedVariables false
open Tsk (Tk tks tchk tks_get tks_len)
section
variable {B0 S : AH} {W : List Nat} {own R : List Own} {ro : List Fct} {Q : Post} {k : AV → AC} {v : AV} {x : Nat} {s : Ms} {m : Mv}
set_option maxHeartbeats 2000000 in
theorem new2_ok {su : Su} {l : List Tk} (hj : -9223372036854775808 ≤ su.jobs) (hv : Fct.sl v 4 (tks l) ∈ ro) (H : Cx B0 W S own ro) : wpC EM (.fn (.func 6) [] []) [.agg (su.cs v)] S fun r S' =>
    (su.chk l ≠ 0 ∧ r = .tup [Np, I (su.chk l)] ∧ Cx B0 W S' own ro) ∨ (su.chk l = 0 ∧ ∃ x m, r = .tup [.ptr x 0, I 0] ∧ m.bx.length = (Ms.init su l).mail.length ∧ Cx B0 W S' (mOwn x (Ms.init su l) m ++ (.sl m.vt 4 (tks l) :: own)) ro) := by
  refine wpC_fn (b := Tryz.a6) rfl rfl ?_
  unfold Tryz.a6 Tryz.a6x16 Tryz.a6x15 Tryz.a6x14 Tryz.a6x13 Tryz.a6x12 Tryz.a6x11 Tryz.a6x10 Tryz.a6x9 Tryz.a6x8 Tryz.a6x7 Tryz.a6x6 Tryz.a6x5 Tryz.a6x4 Tryz.a6x3 Tryz.a6x2 Tryz.a6x1 Tryz.a6x0
  refine wp_boxOwn H rfl fun b S1 H => ?_
  have H : Cx B0 W S1 (.obj b (.row (su.cs v)) :: own) ro := H
  refine wp_loadoa (n := 7) (off := 0) H 0 rfl (Nat.le_of_ble_eq_true rfl) ?_
  show wp EM (.call _ [.agg (su.cs v)] _) _ _
  refine wp_callV H (checkE_ok hj hv H) fun S2 H => ?_
  refine wp_neq (fun hne => ?_) (fun he => ?_)
  · try(refine zz ?_;(repeat constructor);intro _)
    exact wp_ret ⟨rfl, .inl ⟨hne, rfl, H.dropAt 0⟩⟩
  have hfine : su.fine ∧ tchk l = 0 := by
    unfold Su.chk at he
    split at he
    · next hf =>
      split at he
      · next hne => exact absurd he hne
      · next hz => exact ⟨hf, by omega⟩
    · cases he
  have hl32 := (tchk_all hfine.2).1
  have hfi := hfine.1
  unfold Su.fine at hfi
  obtain ⟨nc, hnc⟩ : ∃ n : Nat, su.cores = (n : Int) := ⟨su.cores.toNat, by omega⟩
  obtain ⟨nj, hnj⟩ : ∃ n : Nat, su.jobs = (n : Int) := ⟨su.jobs.toNat, by omega⟩
  try(refine zz ?_;(repeat constructor);intro _)
  refine wp_row (j := 6) H 0 rfl rfl ?_
  refine wp_callN H (cloneT_ok (l := l) (H.roSl hv) (by omega)) fun u S3 H => ?_
  have hu0 : slOk S3 u 4 (tks l) := ownSl_ok (H.oh _ (List.Mem.head _))
  have H : Cx B0 W S3 (.obj b (.row (su.cs v)) :: .sl u 4 (tks l) :: own) ro := H.perm (List.Perm.swap _ _ _)
  try(refine zz ?_;(repeat constructor);intro _)
  refine wp_set1 (j := 6) H 0 rfl (by simp [Su.cs]) (slOk_odd1 hu0).1 (slOk_odd1 hu0).2 fun S4 H => ?_
  have H : Cx B0 W S4 (.sl u 4 (tks l) :: own) (.pt b 0 (su.cs u) :: ro) := H.freeze (i := 0) (c := su.cs u) rfl
  refine wp_ldn H (o := 0) (n := 7) (cs := su.cs u) (by repeat (first | exact List.Mem.head _ | apply List.Mem.tail)) rfl ?_
  try(refine zz ?_;(repeat constructor);intro _)
  refine wp_ld H (o := 0) (cs := su.cs u) (by repeat (first | exact List.Mem.head _ | apply List.Mem.tail)) rfl ?_
  rw [hnc]
  refine wp_mkslice1 (n := nc) H (by omega) (by omega) fun vm S5 H => ?_
  try(refine zz ?_;(repeat constructor);intro _)
  refine wp_ld H (o := 0) (cs := su.cs u) (by repeat (first | exact List.Mem.head _ | apply List.Mem.tail)) rfl ?_
  rw [hnc]
  refine wp_mkslice1 (n := nc) H (by omega) (by omega) fun vg S6 H => ?_
  have hu : slOk S6 u 4 (tks l) := ownSl_ok (H.oh _ (List.mem_of_getElem? (i := 2) rfl))
  have hvg : slOk S6 vg 1 (List.replicate nc [B false]) := ownSl_ok (H.oh _ (List.Mem.head _))
  have hvm : slOk S6 vm 1 (List.replicate nc [Ns]) := ownSl_ok (H.oh _ (List.mem_of_getElem? (i := 1) rfl))
  refine wp_op (e_buildM (su := su) hu hvm hvg) ?_
  refine wp_boxOwn H rfl fun x S7 H => ?_
  have H : Cx B0 W S7 (.obj x (.row (su.cs u ++ [Ns, I 0, Ns, Ns, vm, Ns, vg])) :: .sl vg 1 (List.replicate nc [B false]) :: .sl vm 1 (List.replicate nc [Ns]) :: (.sl u 4 (tks l) :: own)) (.pt b 0 (su.cs u) :: ro) := H
  have H := ((((H.addNilS 1).addNilS 4).addNilS 1).addNilS 1).addNils 1 nc
  have e : su.cores.toNat = nc := by omega
  have ej : su.jobs.toNat = nj := by omega
  have H : Cx B0 W S7 (mOwn x (Ms.part su l 0 0 0) ⟨u, Ns, Ns, Ns, vm, Ns, vg, List.replicate nc Ns⟩ ++ (.sl u 4 (tks l) :: own)) (.pt b 0 (su.cs u) :: ro) := by
    have q : mOwn x (Ms.part su l 0 0 0) ⟨u, Ns, Ns, Ns, vm, Ns, vg, List.replicate nc Ns⟩ ++ (.sl u 4 (tks l) :: own) = Own.obj x (.row (su.cs u ++ [Ns, I 0, Ns, Ns, vm, Ns, vg])) :: .sl Ns 1 [] :: .sl Ns 4 [] :: .sl Ns 1 [] :: .sl vm 1 (List.replicate nc [Ns]) :: .sl Ns 1 [] :: .sl vg 1 (List.replicate nc [B false]) :: (List.replicate nc (.sl Ns 1 []) ++ (.sl u 4 (tks l) :: own)) := by
      unfold mOwn Ms.part
      simp only [bls_rep, ptrs_rep, e, rep_boxes]
      rfl
    rw [q]
    exact H.perm (own_perm _ _ _ _ _ _ _)
  try(refine zz ?_;(repeat constructor);intro _)
  refine wp_ld H (o := 6) (cs := su.cs u) (by repeat (first | exact List.Mem.head _ | apply List.Mem.tail)) rfl ?_
  refine wp_op (slOk_len (ownSl_ok (H.oh (.sl u 4 (tks l)) (List.mem_append_right _ (List.Mem.head _))))) ?_
  rw [tks_len]
  refine wp_bind (wp_loop (wpL_for l.length (fun i vs S1 => vs = [I (i : Int)] ∧ ∃ vp, Cx B0 W S1 (mOwn x (Ms.part su l i 0 0) ⟨u, vp, Ns, Ns, vm, Ns, vg, List.replicate nc Ns⟩ ++ (.sl u 4 (tks l) :: own)) (.pt b 0 (su.cs u) :: ro)) ?_ ?_ ⟨rfl, _, H⟩))
  · clear H
    rintro i vs S8 hlt ⟨rfl, vp, H⟩
    refine wp_lss_t (by omega) ?_
    try(refine zz ?_;(repeat constructor);intro _)
    refine wp_bind ?_
    try(refine zz ?_;(repeat constructor);intro _)
    refine wp_row (j := 7) H 0 rfl rfl ?_
    have hle : (ints (List.replicate i (-1))).length = i := by rw [ints_len, List.length_replicate]
    refine wp_push (x := I (-1)) (L := ints (List.replicate i (-1))) H 1 rfl rfl rfl rfl (by rw [hle]; unfold maxBytes; omega) (by rw [hle]; unfold maxLenN; omega) fun v1 S9 H => ?_
    have e1 : ints (List.replicate i (-1)) ++ [(I (-1)).cells] = ints (List.replicate (i + 1) (-1)) := by rw [rep_succ, ints_app]; rfl
    rw [e1] at H
    obtain ⟨o1, o2⟩ := slOk_odd1 (ownSl_ok (H.oh (.sl v1 1 (ints (List.replicate (i + 1) (-1)))) (List.mem_of_getElem? (i := 1) rfl)))
    try(refine zz ?_;(repeat constructor);intro _)
    refine wp_set1 (j := 7) H 0 rfl (by simp [Ms.row, Su.cs]) o1 o2 fun S10 H => ?_
    refine wp_ret ?_
    show wp EM _ _ _
    exact wp_add64 (by omega) (by omega) (wp_ret (.inl ⟨rfl, rfl, v1, H⟩))
  clear H
  rintro vs S8 ⟨rfl, vp, H⟩
  refine wp_lss_f (by omega) ?_
  try(refine zz ?_;(repeat constructor);intro _)
  refine wp_ret ⟨by simp, ?_⟩
  show wp EM _ _ _
  try(refine zz ?_;(repeat constructor);intro _)
  refine wp_ld H (o := 1) (cs := su.cs u) (by repeat (first | exact List.Mem.head _ | apply List.Mem.tail)) rfl ?_
  rw [hnj]
  refine wp_bind (wp_loop (wpL_for nj (fun i vs S1 => vs = [I (i : Int)] ∧ ∃ vj vf, Cx B0 W S1 (mOwn x (Ms.part su l l.length i 0) ⟨u, vp, vj, vf, vm, Ns, vg, List.replicate nc Ns⟩ ++ (.sl u 4 (tks l) :: own)) (.pt b 0 (su.cs u) :: ro)) ?_ ?_ ⟨rfl, _, _, H⟩))
  · clear H
    rintro i vs S8 hlt ⟨rfl, vj, vf, H⟩
    refine wp_lss_t (by omega) ?_
    try(refine zz ?_;(repeat constructor);intro _)
    refine wp_bind ?_
    try(refine zz ?_;(repeat constructor);intro _)
    refine wp_row (j := 9) H 0 rfl rfl ?_
    refine wp_op (v := .agg (Lv.cs ⟨i, 1, 0, 0⟩)) rfl ?_
    have hle : (lvs (jobs0 i)).length = i := by rw [lvs_len, jobs0_len]
    refine wp_push (x := .agg (Lv.cs ⟨i, 1, 0, 0⟩)) (L := lvs (jobs0 i)) H 2 rfl rfl rfl rfl (by rw [hle]; unfold maxBytes; omega) (by rw [hle]; unfold maxLenN; omega) fun v1 S9 H => ?_
    have e1 : lvs (jobs0 i) ++ [(AV.agg (Lv.cs ⟨i, 1, 0, 0⟩)).cells] = lvs (jobs0 (i + 1)) := by rw [jobs0_succ, lvs_app]; rfl
    rw [e1] at H
    obtain ⟨o1, o2⟩ := slOk_odd1 (ownSl_ok (H.oh (.sl v1 4 (lvs (jobs0 (i + 1)))) (List.mem_of_getElem? (i := 2) rfl)))
    try(refine zz ?_;(repeat constructor);intro _)
    refine wp_set1 (j := 9) H 0 rfl (by simp [Ms.row, Su.cs]) o1 o2 fun S10 H => ?_
    try(refine zz ?_;(repeat constructor);intro _)
    refine wp_row (j := 10) H 0 rfl rfl ?_
    have hle : (ints (free0 i)).length = i := by rw [ints_len, free0_len]
    refine wp_push (x := I (i : Int)) (L := ints (free0 i)) H 3 rfl rfl rfl rfl (by rw [hle]; unfold maxBytes; omega) (by rw [hle]; unfold maxLenN; omega) fun v2 S11 H => ?_
    have e2 : ints (free0 i) ++ [(I (i : Int)).cells] = ints (free0 (i + 1)) := by rw [free0_succ, ints_app]; rfl
    rw [e2] at H
    obtain ⟨o3, o4⟩ := slOk_odd1 (ownSl_ok (H.oh (.sl v2 1 (ints (free0 (i + 1)))) (List.mem_of_getElem? (i := 3) rfl)))
    try(refine zz ?_;(repeat constructor);intro _)
    refine wp_set1 (j := 10) H 0 rfl (by simp [Ms.row, Su.cs]) o3 o4 fun S12 H => ?_
    refine wp_ret ?_
    show wp EM _ _ _
    exact wp_add64 (by omega) (by omega) (wp_ret (.inl ⟨rfl, rfl, v1, v2, H⟩))
  clear H
  rintro vs S8 ⟨rfl, vj, vf, H⟩
  refine wp_lss_f (by omega) ?_
  try(refine zz ?_;(repeat constructor);intro _)
  refine wp_ret ⟨by simp, ?_⟩
  show wp EM _ _ _
  try(refine zz ?_;(repeat constructor);intro _)
  refine wp_ld H (o := 0) (cs := su.cs u) (by repeat (first | exact List.Mem.head _ | apply List.Mem.tail)) rfl ?_
  rw [hnc]
  refine wp_bind (wp_loop (wpL_for nc (fun i vs S1 => vs = [I (i : Int)] ∧ ∃ vr, Cx B0 W S1 (mOwn x (Ms.part su l l.length nj i) ⟨u, vp, vj, vf, vm, vr, vg, List.replicate nc Ns⟩ ++ (.sl u 4 (tks l) :: own)) (.pt b 0 (su.cs u) :: ro)) ?_ ?_ ⟨rfl, _, H⟩))
  · clear H
    rintro i vs S8 hlt ⟨rfl, vr, H⟩
    refine wp_lss_t (by omega) ?_
    try(refine zz ?_;(repeat constructor);intro _)
    refine wp_bind ?_
    try(refine zz ?_;(repeat constructor);intro _)
    refine wp_row (j := 12) H 0 rfl rfl ?_
    have hle : (ints (List.replicate i (-1))).length = i := by rw [ints_len, List.length_replicate]
    refine wp_push (x := I (-1)) (L := ints (List.replicate i (-1))) H 5 rfl rfl rfl rfl (by rw [hle]; unfold maxBytes; omega) (by rw [hle]; unfold maxLenN; omega) fun v1 S9 H => ?_
    have e1 : ints (List.replicate i (-1)) ++ [(I (-1)).cells] = ints (List.replicate (i + 1) (-1)) := by rw [rep_succ, ints_app]; rfl
    rw [e1] at H
    obtain ⟨o1, o2⟩ := slOk_odd1 (ownSl_ok (H.oh (.sl v1 1 (ints (List.replicate (i + 1) (-1)))) (List.mem_of_getElem? (i := 5) rfl)))
    try(refine zz ?_;(repeat constructor);intro _)
    refine wp_set1 (j := 12) H 0 rfl (by simp [Ms.row, Su.cs]) o1 o2 fun S10 H => ?_
    refine wp_ret ?_
    show wp EM _ _ _
    exact wp_add64 (by omega) (by omega) (wp_ret (.inl ⟨rfl, rfl, v1, H⟩))
  clear H
  rintro vs S8 ⟨rfl, vr, H⟩
  refine wp_lss_f (by omega) ?_
  try(refine zz ?_;(repeat constructor);intro _)
  refine wp_ret ⟨by simp, ?_⟩
  show wp EM _ _ _
  refine wp_ret ⟨rfl, .inr ⟨by omega, x, ⟨u, vp, vj, vf, vm, vr, vg, List.replicate nc Ns⟩, rfl, ?_, ?_⟩⟩
  · show (List.replicate nc Ns).length = (List.replicate su.cores.toNat ([] : List Int)).length
    rw [List.length_replicate, List.length_replicate, e]
  · unfold Ms.init
    rw [e, ej]
    exact H.tl
end
end Go.Abs
namespace Go.Abs
open Go.Proofs
set_option maxRecDepth 100000
set_option linter.unusedVariables false
open Tsk (Tk tks tchk tks_get tks_len)
theorem pas_rep (n : Nat) : pas (List.replicate n (-1)) = List.replicate n 0 := by unfold pas; rw [List.map_replicate]; rfl
theorem jds_app (a b : List Lv) : jds (a ++ b) = jds a ++ jds b := List.map_append ..
theorem ints_rep (n : Nat) (a : Int) : ints (List.replicate n a) = List.replicate n [I a] := by unfold ints; rw [List.map_replicate]
section
variable {B0 S : AH} {W : List Nat} {own R : List Own} {ro : List Fct} {Q : Post} {k : AV → AC} {v : AV} {x : Nat} {s : Ms} {m : Mv}
theorem e_buildD {su : Su} {u p a b : AV} {eu ep ea eb : Nat} {Lu Lp La Lb : List (List AV)} (hu : slOk S u eu Lu) (hp : slOk S p ep Lp) (ha : slOk S a ea La) (hb : slOk S b eb Lb) :
    evalOp EM.P (.build [I 0, I 0, I 0, I 0, I 0, I 0, Ns, Ns, I 0, Ns, Ns, Ns, Ns, Ns] [(0, 7, .agg (su.cs u)), (7, 1, p), (11, 1, a), (13, 1, b)]) S = some (.agg (su.cs u ++ [p, I 0, Ns, Ns, a, Ns, b]), S) := by
  rcases hu with ⟨rfl, _⟩ | ⟨_, _, _, (⟨_, _, _, rfl⟩ | ⟨_, _, _, rfl⟩), _⟩ <;> rcases ha with ⟨rfl, _⟩ | ⟨_, _, _, (⟨_, _, _, rfl⟩ | ⟨_, _, _, rfl⟩), _⟩ <;> rcases hb with ⟨rfl, _⟩ | ⟨_, _, _, (⟨_, _, _, rfl⟩ | ⟨_, _, _, rfl⟩), _⟩ <;> rcases hp with ⟨rfl, _⟩ | ⟨_, _, _, (⟨_, _, _, rfl⟩ | ⟨_, _, _, rfl⟩), _⟩ <;> rfl
set_option maxHeartbeats 2000000 in
theorem rnew_ok {su : Su} {l : List Tk} (hl40 : l.length ≤ 40) (hv : Fct.sl v 4 (tks l) ∈ ro) (H : Cx B0 W S own ro) : wpC EM (.fn (.func 7) [] []) [.agg (su.cs v)] S fun r S' =>
    (su.chk l ≠ 0 ∧ r = .tup [Np, I (su.chk l)] ∧ Cx B0 W S' own ro) ∨ (su.chk l = 0 ∧ ∃ x m, r = .tup [.ptr x 0, I 0] ∧ m.bx.length = (Ms.init su l).mail.length ∧ Cx B0 W S' (dOwn x (Ms.init su l) m ++ (.sl m.vt 4 (tks l) :: own)) ro) := by
  refine wpC_fn (b := Tryz.a7) rfl rfl ?_
  unfold Tryz.a7 Tryz.a7x12 Tryz.a7x11 Tryz.a7x10 Tryz.a7x9 Tryz.a7x8 Tryz.a7x7 Tryz.a7x6 Tryz.a7x5 Tryz.a7x4 Tryz.a7x3 Tryz.a7x2 Tryz.a7x1 Tryz.a7x0
  refine wp_boxOwn H rfl fun b S1 H => ?_
  have H : Cx B0 W S1 (.obj b (.row (su.cs v)) :: own) ro := H
  refine wp_loadoa (n := 7) (off := 0) H 0 rfl (Nat.le_of_ble_eq_true rfl) ?_
  show wp EM (.call _ [.agg (su.cs v)] _) _ _
  refine wp_callV H (rcheckE_ok hv H) fun S2 H => ?_
  refine wp_neq (fun hne => ?_) (fun he => ?_)
  · try(refine zz ?_;(repeat constructor);intro _)
    exact wp_ret ⟨rfl, .inl ⟨hne, rfl, H.dropAt 0⟩⟩
  have hfine : su.fine ∧ tchk l = 0 := by
    unfold Su.chk at he
    split at he
    · next hf =>
      split at he
      · next hne => exact absurd he hne
      · next hz => exact ⟨hf, by omega⟩
    · cases he
  have hl32 := (tchk_all hfine.2).1
  have hfi := hfine.1
  unfold Su.fine at hfi
  obtain ⟨nc, hnc⟩ : ∃ n : Nat, su.cores = (n : Int) := ⟨su.cores.toNat, by omega⟩
  obtain ⟨nj, hnj⟩ : ∃ n : Nat, su.jobs = (n : Int) := ⟨su.jobs.toNat, by omega⟩
  try(refine zz ?_;(repeat constructor);intro _)
  refine wp_bslice0 H rfl fun u0 S3 H => ?_
  try(refine zz ?_;(repeat constructor);intro _)
  refine wp_row (j := 6) H 1 rfl rfl ?_
  refine wp_appendR (x := v) (N := tks l) H 0 rfl hv (tks_all l) (by rw [tks_len]; unfold maxBytes; simp; omega) (by rw [tks_len]; unfold maxLenN; simp; omega) fun u S4 H => ?_
  have H : Cx B0 W S4 (.obj b (.row (su.cs v)) :: .sl u 4 (tks l) :: own) ro := H.perm (List.Perm.swap _ _ _)
  have hu0 : slOk S4 u 4 (tks l) := ownSl_ok (H.oh _ (List.mem_of_getElem? (i := 1) rfl))
  try(refine zz ?_;(repeat constructor);intro _)
  refine wp_set1 (j := 6) H 0 rfl (by simp [Su.cs]) (slOk_odd1 hu0).1 (slOk_odd1 hu0).2 fun S5 H => ?_
  have H : Cx B0 W S5 (.sl u 4 (tks l) :: own) (.pt b 0 (su.cs u) :: ro) := H.freeze (i := 0) (c := su.cs u) rfl
  refine wp_ldn H (o := 0) (n := 7) (cs := su.cs u) (by repeat (first | exact List.Mem.head _ | apply List.Mem.tail)) rfl ?_
  try(refine zz ?_;(repeat constructor);intro _)
  refine wp_ld H (o := 6) (cs := su.cs u) (by repeat (first | exact List.Mem.head _ | apply List.Mem.tail)) rfl ?_
  refine wp_op (slOk_len (ownSl_ok (H.oh _ (List.mem_of_getElem? (i := 0) rfl)))) ?_
  rw [tks_len]
  refine wp_mkslice1 (n := l.length) H (by omega) (by omega) fun vp S6 H => ?_
  try(refine zz ?_;(repeat constructor);intro _)
  refine wp_ld H (o := 0) (cs := su.cs u) (by repeat (first | exact List.Mem.head _ | apply List.Mem.tail)) rfl ?_
  rw [hnc]
  refine wp_mkslice1 (n := nc) H (by omega) (by omega) fun vm S7 H => ?_
  try(refine zz ?_;(repeat constructor);intro _)
  refine wp_ld H (o := 0) (cs := su.cs u) (by repeat (first | exact List.Mem.head _ | apply List.Mem.tail)) rfl ?_
  rw [hnc]
  refine wp_mkslice1 (n := nc) H (by omega) (by omega) fun vg S8 H => ?_
  have hu : slOk S8 u 4 (tks l) := ownSl_ok (H.oh _ (List.mem_of_getElem? (i := 3) rfl))
  have hvg : slOk S8 vg 1 (List.replicate nc [B false]) := ownSl_ok (H.oh _ (List.Mem.head _))
  have hvm : slOk S8 vm 1 (List.replicate nc [Ns]) := ownSl_ok (H.oh _ (List.mem_of_getElem? (i := 1) rfl))
  have hvp : slOk S8 vp 1 (List.replicate l.length [I 0]) := ownSl_ok (H.oh _ (List.mem_of_getElem? (i := 2) rfl))
  refine wp_op (e_buildD (su := su) hu hvp hvm hvg) ?_
  refine wp_boxOwn H rfl fun x S9 H => ?_
  have H : Cx B0 W S9 (.obj x (.row (su.cs u ++ [vp, I 0, Ns, Ns, vm, Ns, vg])) :: .sl vg 1 (List.replicate nc [B false]) :: .sl vm 1 (List.replicate nc [Ns]) :: .sl vp 1 (List.replicate l.length [I 0]) :: .sl u 4 (tks l) :: own) (.pt b 0 (su.cs u) :: ro) := H
  have H := (((H.addNilS 1).addNilS 1).addNilS 3).addNils 1 nc
  have e : su.cores.toNat = nc := by omega
  have ej : su.jobs.toNat = nj := by omega
  have H : Cx B0 W S9 (dOwn x (Ms.part su l l.length 0 0) ⟨u, vp, Ns, Ns, vm, Ns, vg, List.replicate nc Ns⟩ ++ (.sl u 4 (tks l) :: own)) (.pt b 0 (su.cs u) :: ro) := by
    have q : dOwn x (Ms.part su l l.length 0 0) ⟨u, vp, Ns, Ns, vm, Ns, vg, List.replicate nc Ns⟩ ++ (.sl u 4 (tks l) :: own) = Own.obj x (.row (su.cs u ++ [vp, I 0, Ns, Ns, vm, Ns, vg])) :: .sl vp 1 (List.replicate l.length [I 0]) :: .sl Ns 3 [] :: .sl Ns 1 [] :: .sl vm 1 (List.replicate nc [Ns]) :: .sl Ns 1 [] :: .sl vg 1 (List.replicate nc [B false]) :: (List.replicate nc (.sl Ns 1 []) ++ (.sl u 4 (tks l) :: own)) := by
      unfold dOwn dOwnG Ms.part
      simp only [bls_rep, ptrs_rep, e, rep_boxes, pas_rep, ints_rep]
      rfl
    rw [q]
    refine H.perm (List.Perm.trans (List.perm_append_comm_assoc (List.replicate nc (Own.sl Ns 1 [])) [.sl Ns 3 [], .sl Ns 1 [], .sl Ns 1 [], .obj x (.row (su.cs u ++ [vp, I 0, Ns, Ns, vm, Ns, vg])), .sl vg 1 (List.replicate nc [B false]), .sl vm 1 (List.replicate nc [Ns]), .sl vp 1 (List.replicate l.length [I 0])] (.sl u 4 (tks l) :: own)) ?_)
    have : ∀ (a c d e f g h : Own) (Z : List Own), ([a, c, d, e, f, g, h] ++ Z).Perm (e :: h :: a :: c :: g :: d :: f :: Z) := by
      intro a c d e f g h Z
      refine List.Perm.trans (List.perm_middle (l₁ := [a, c, d]) (a := e) (l₂ := f :: g :: h :: Z)) (List.Perm.cons _ ?_)
      refine List.Perm.trans (List.perm_middle (l₁ := [a, c, d, f, g]) (a := h) (l₂ := Z)) (List.Perm.cons _ (List.Perm.cons _ (List.Perm.cons _ ?_)))
      exact List.perm_middle (l₁ := [d, f]) (a := g) (l₂ := Z)
    exact this _ _ _ _ _ _ _ _
  try(refine zz ?_;(repeat constructor);intro _)
  refine wp_bind (wp_loop (wpL_for nj (fun i vs S1 => vs = [I (i : Int)] ∧ ∃ vj vf, Cx B0 W S1 (dOwn x (Ms.part su l l.length i 0) ⟨u, vp, vj, vf, vm, Ns, vg, List.replicate nc Ns⟩ ++ (.sl u 4 (tks l) :: own)) (.pt b 0 (su.cs u) :: ro)) ?_ ?_ ⟨rfl, _, _, H⟩))
  · clear H
    rintro i vs S8 hlt ⟨rfl, vj, vf, H⟩
    try(refine zz ?_;(repeat constructor);intro _)
    refine wp_ld H (o := 1) (cs := su.cs u) (by repeat (first | exact List.Mem.head _ | apply List.Mem.tail)) rfl ?_
    refine wp_lss_t (by omega) ?_
    try(refine zz ?_;(repeat constructor);intro _)
    refine wp_bind ?_
    try(refine zz ?_;(repeat constructor);intro _)
    refine wp_row (j := 9) H 0 rfl rfl ?_
    refine wp_op (v := .agg (Lv.ds ⟨i, 1, 0, 0⟩)) rfl ?_
    have hle : (jds (jobs0 i)).length = i := by rw [jds_len, jobs0_len]
    refine wp_push (x := .agg (Lv.ds ⟨i, 1, 0, 0⟩)) (L := jds (jobs0 i)) H 2 rfl rfl rfl rfl (by rw [hle]; unfold maxBytes; omega) (by rw [hle]; unfold maxLenN; omega) fun v1 S9 H => ?_
    have e1 : jds (jobs0 i) ++ [(AV.agg (Lv.ds ⟨i, 1, 0, 0⟩)).cells] = jds (jobs0 (i + 1)) := by rw [jobs0_succ, jds_app]; rfl
    rw [e1] at H
    obtain ⟨o1, o2⟩ := slOk_odd1 (ownSl_ok (H.oh (.sl v1 3 (jds (jobs0 (i + 1)))) (List.mem_of_getElem? (i := 2) rfl)))
    try(refine zz ?_;(repeat constructor);intro _)
    refine wp_set1 (j := 9) H 0 rfl (by simp [Ms.row, Su.cs]) o1 o2 fun S10 H => ?_
    try(refine zz ?_;(repeat constructor);intro _)
    refine wp_row (j := 10) H 0 rfl rfl ?_
    have hle : (ints (free0 i)).length = i := by rw [ints_len, free0_len]
    refine wp_push (x := I (i : Int)) (L := ints (free0 i)) H 3 rfl rfl rfl rfl (by rw [hle]; unfold maxBytes; omega) (by rw [hle]; unfold maxLenN; omega) fun v2 S11 H => ?_
    have e2 : ints (free0 i) ++ [(I (i : Int)).cells] = ints (free0 (i + 1)) := by rw [free0_succ, ints_app]; rfl
    rw [e2] at H
    obtain ⟨o3, o4⟩ := slOk_odd1 (ownSl_ok (H.oh (.sl v2 1 (ints (free0 (i + 1)))) (List.mem_of_getElem? (i := 3) rfl)))
    try(refine zz ?_;(repeat constructor);intro _)
    refine wp_set1 (j := 10) H 0 rfl (by simp [Ms.row, Su.cs]) o3 o4 fun S12 H => ?_
    refine wp_ret ?_
    show wp EM _ _ _
    exact wp_add64 (by omega) (by omega) (wp_ret (.inl ⟨rfl, rfl, v1, v2, H⟩))
  clear H
  rintro vs S8 ⟨rfl, vj, vf, H⟩
  try(refine zz ?_;(repeat constructor);intro _)
  refine wp_ld H (o := 1) (cs := su.cs u) (by repeat (first | exact List.Mem.head _ | apply List.Mem.tail)) rfl ?_
  refine wp_lss_f (by omega) ?_
  try(refine zz ?_;(repeat constructor);intro _)
  refine wp_ret ⟨by simp, ?_⟩
  show wp EM _ _ _
  refine wp_bind (wp_loop (wpL_for nc (fun i vs S1 => vs = [I (i : Int)] ∧ ∃ vr, Cx B0 W S1 (dOwn x (Ms.part su l l.length nj i) ⟨u, vp, vj, vf, vm, vr, vg, List.replicate nc Ns⟩ ++ (.sl u 4 (tks l) :: own)) (.pt b 0 (su.cs u) :: ro)) ?_ ?_ ⟨rfl, _, H⟩))
  · clear H
    rintro i vs S8 hlt ⟨rfl, vr, H⟩
    try(refine zz ?_;(repeat constructor);intro _)
    refine wp_ld H (o := 0) (cs := su.cs u) (by repeat (first | exact List.Mem.head _ | apply List.Mem.tail)) rfl ?_
    refine wp_lss_t (by omega) ?_
    try(refine zz ?_;(repeat constructor);intro _)
    refine wp_bind ?_
    try(refine zz ?_;(repeat constructor);intro _)
    refine wp_row (j := 12) H 0 rfl rfl ?_
    have hle : (ints (List.replicate i (-1))).length = i := by rw [ints_len, List.length_replicate]
    refine wp_push (x := I (-1)) (L := ints (List.replicate i (-1))) H 5 rfl rfl rfl rfl (by rw [hle]; unfold maxBytes; omega) (by rw [hle]; unfold maxLenN; omega) fun v1 S9 H => ?_
    have e1 : ints (List.replicate i (-1)) ++ [(I (-1)).cells] = ints (List.replicate (i + 1) (-1)) := by rw [rep_succ, ints_app]; rfl
    rw [e1] at H
    obtain ⟨o1, o2⟩ := slOk_odd1 (ownSl_ok (H.oh (.sl v1 1 (ints (List.replicate (i + 1) (-1)))) (List.mem_of_getElem? (i := 5) rfl)))
    try(refine zz ?_;(repeat constructor);intro _)
    refine wp_set1 (j := 12) H 0 rfl (by simp [Ms.row, Su.cs]) o1 o2 fun S10 H => ?_
    refine wp_ret ?_
    show wp EM _ _ _
    exact wp_add64 (by omega) (by omega) (wp_ret (.inl ⟨rfl, rfl, v1, H⟩))
  clear H
  rintro vs S8 ⟨rfl, vr, H⟩
  try(refine zz ?_;(repeat constructor);intro _)
  refine wp_ld H (o := 0) (cs := su.cs u) (by repeat (first | exact List.Mem.head _ | apply List.Mem.tail)) rfl ?_
  refine wp_lss_f (by omega) ?_
  try(refine zz ?_;(repeat constructor);intro _)
  refine wp_ret ⟨by simp, ?_⟩
  show wp EM _ _ _
  refine wp_ret ⟨rfl, .inr ⟨by omega, x, ⟨u, vp, vj, vf, vm, vr, vg, List.replicate nc Ns⟩, rfl, ?_, ?_⟩⟩
  · show (List.replicate nc Ns).length = (List.replicate su.cores.toNat ([] : List Int)).length
    rw [List.length_replicate, List.length_replicate, e]
  · unfold Ms.init
    rw [e, ej]
    exact H.tl
end
end Go.Abs
namespace Go.Abs
open Go.Proofs
set_option maxRecDepth 100000
set_option linter.unusedVariables false
open Tsk (Tk tks tchk tks_get tks_len)
theorem lvs_one (l : List Lv) : ∀ x ∈ lvs l, x.length = 4 := lvs_all l
theorem jds_one (l : List Lv) : ∀ x ∈ jds l, x.length = 3 := by intro x hx; obtain ⟨n, _, rfl⟩ := List.mem_map.1 hx; rfl
theorem bls_one (l : List Bool) : ∀ x ∈ bls l, x.length = 1 := by intro x hx; obtain ⟨n, _, rfl⟩ := List.mem_map.1 hx; rfl
theorem ptrs_one (l : List AV) : ∀ x ∈ ptrs l, x.length = 1 := by intro x hx; obtain ⟨n, _, rfl⟩ := List.mem_map.1 hx; rfl
section
variable {B0 S : AH} {W : List Nat} {own R : List Own} {ro : List Fct} {Q : Post} {k : AV → AC} {v : AV} {x : Nat} {s : Ms} {m : Mv}
theorem wp_copyO (H : Cx B0 W S own ro) (n : Nat) {v : AV} {es bytes : Nat} {z : List AV} {L : List (List AV)} (hm : own[n]? = some (.sl v es L)) (hz : z.length = es) (hL : ∀ x ∈ L, x.length = es) (h1 : L.length * bytes ≤ maxBytes) (h2 : L.length ≤ maxLenN)
    (h : ∀ v1 S1, Cx B0 W S1 (.sl v1 es L :: own) ro → wp EM (k v1) S1 Q) : wp EM (.op (.bslice es 0 z []) fun u => .op (.append es bytes u v) k) S Q := by
  refine wp_bslice0 H hz fun u S1 H => ?_
  refine wp_append (N := L) H 0 rfl (slOk_elems (ownSl_ok (H.oh _ (List.mem_of_getElem? (i := n + 1) hm)))) hL (by simpa using h1) (by simpa using h2) fun v1 S2 H => h v1 S2 ?_
  simpa using H
theorem wp_cloneO (H : Cx B0 W S own ro) (n : Nat) {v : AV} {t es bytes : Nat} {z : List AV} {L : List (List AV)} (hm : own[n]? = some (.sl v es L)) (hz : z.length = es) (hL : ∀ x ∈ L, x.length = es) (h1 : L.length * bytes ≤ maxBytes) (h2 : L.length ≤ maxLenN)
    (hN : evalOp EM.P (.eq t false Ns Ns) S = some (B true, S)) (hS : ∀ id o n c, evalOp EM.P (.eq t false (.sl id o n c) Ns) S = some (B false, S)) (hO : ∀ id o n c, evalOp EM.P (.eq t false (.op id o n c es) Ns) S = some (B false, S)) {P : AV → AH → Prop}
    (h : ∀ v1 S1, Cx B0 W S1 (.sl v1 es L :: own) ro → P v1 S1) : wp EM (.op (.eq t false v Ns) fun v1 => .ite v1 (.ret .ret [Ns]) (.op (.bslice es 0 z []) fun u => .op (.append es bytes u v) fun w => .ret .ret [w])) S fun tg vs S' => tg = .ret ∧ P (oneOf vs) S' := by
  have hv : slOk S v es L := ownSl_ok (H.oh _ (List.mem_of_getElem? hm))
  have go2 : wp EM (.op (.bslice es 0 z []) fun u => .op (.append es bytes u v) fun w => .ret .ret [w]) S fun tg vs S' => tg = .ret ∧ P (oneOf vs) S' := wp_copyO H n hm hz hL h1 h2 fun v1 S1 H => wp_ret ⟨rfl, h v1 S1 H⟩
  rcases hv with ⟨rfl, rfl⟩ | ⟨id, off, c, (⟨_, _, _, rfl⟩ | ⟨_, _, _, rfl⟩), _⟩
  · refine wp_op hN (wp_ite_t (wp_ret ⟨rfl, h Ns S (H.addNilS es)⟩))
  · exact wp_op (hS _ _ _ _) (wp_ite_f go2)
  · exact wp_op (hO _ _ _ _) (wp_ite_f go2)
theorem cloneI_ok (H : Cx B0 W S own ro) (n : Nat) {v : AV} {l : List Int} (hm : own[n]? = some (.sl v 1 (ints l))) (hl : l.length ≤ 100000) : wpC EM (.fn (.func 25) [] []) [v] S fun r S' => Cx B0 W S' (.sl r 1 (ints l) :: own) ro := by
  refine wpC_fn (b := Tryz.a25) rfl rfl ?_
  unfold Tryz.a25
  exact wp_cloneO (P := fun r S' => Cx B0 W S' (.sl r 1 (ints l) :: own) ro) H n hm rfl (ints_one l) (by rw [ints_len]; unfold maxBytes; omega) (by rw [ints_len]; unfold maxLenN; omega) (by kernel_rfl) (fun _ _ _ _ => by kernel_rfl) (fun _ _ _ _ => by kernel_rfl) fun _ _ H => H
theorem cloneB_ok (H : Cx B0 W S own ro) (n : Nat) {v : AV} {l : List Bool} (hm : own[n]? = some (.sl v 1 (bls l))) (hl : l.length ≤ 100000) : wpC EM (.fn (.func 27) [] []) [v] S fun r S' => Cx B0 W S' (.sl r 1 (bls l) :: own) ro := by
  refine wpC_fn (b := Tryz.a27) rfl rfl ?_
  unfold Tryz.a27
  exact wp_cloneO (P := fun r S' => Cx B0 W S' (.sl r 1 (bls l) :: own) ro) H n hm rfl (bls_one l) (by rw [bls_len]; unfold maxBytes; omega) (by rw [bls_len]; unfold maxLenN; omega) (by kernel_rfl) (fun _ _ _ _ => by kernel_rfl) (fun _ _ _ _ => by kernel_rfl) fun _ _ H => H
theorem cloneP_ok (H : Cx B0 W S own ro) (n : Nat) {v : AV} {l : List AV} (hm : own[n]? = some (.sl v 1 (ptrs l))) (hl : l.length ≤ 100000) : wpC EM (.fn (.func 28) [] []) [v] S fun r S' => Cx B0 W S' (.sl r 1 (ptrs l) :: own) ro := by
  refine wpC_fn (b := Tryz.a28) rfl rfl ?_
  unfold Tryz.a28
  exact wp_cloneO (P := fun r S' => Cx B0 W S' (.sl r 1 (ptrs l) :: own) ro) H n hm rfl (ptrs_one l) (by rw [ptrs_len]; unfold maxBytes; omega) (by rw [ptrs_len]; unfold maxLenN; omega) (by kernel_rfl) (fun _ _ _ _ => by kernel_rfl) (fun _ _ _ _ => by kernel_rfl) fun _ _ H => H
theorem cloneV_ok (H : Cx B0 W S own ro) (n : Nat) {v : AV} {l : List Lv} (hm : own[n]? = some (.sl v 4 (lvs l))) (hl : l.length ≤ 100000) : wpC EM (.fn (.func 26) [] []) [v] S fun r S' => Cx B0 W S' (.sl r 4 (lvs l) :: own) ro := by
  refine wpC_fn (b := Tryz.a26) rfl rfl ?_
  unfold Tryz.a26
  exact wp_cloneO (P := fun r S' => Cx B0 W S' (.sl r 4 (lvs l) :: own) ro) H n hm rfl (lvs_one l) (by rw [lvs_len]; unfold maxBytes; omega) (by rw [lvs_len]; unfold maxLenN; omega) (by kernel_rfl) (fun _ _ _ _ => by kernel_rfl) (fun _ _ _ _ => by kernel_rfl) fun _ _ H => H
theorem copyI_ok (H : Cx B0 W S own ro) (n : Nat) {v : AV} {l : List Int} (hm : own[n]? = some (.sl v 1 (ints l))) (hl : l.length ≤ 100000) : wpC EM (.fn (.func 29) [] []) [v] S fun r S' => Cx B0 W S' (.sl r 1 (ints l) :: own) ro := by
  refine wpC_fn (b := Tryz.a29) rfl rfl ?_
  unfold Tryz.a29
  exact wp_copyO H n hm rfl (ints_one l) (by rw [ints_len]; unfold maxBytes; omega) (by rw [ints_len]; unfold maxLenN; omega) fun v1 S1 H => wp_ret ⟨rfl, H⟩
theorem flags_ok (wf : s.Wf) (H : Cx B0 W S (mOwn x s m ++ R) ro) : wpC EM (.fn (.func 37) [] []) [.ptr x 0] S fun r S' => Cx B0 W S' (.sl r 1 (bls s.flags) :: (mOwn x s m ++ R)) ro := by
  refine wpC_fn (b := Tryz.a37) rfl rfl ?_
  unfold Tryz.a37 Tryz.a37x0
  refine wp_call (wpC_mono (nothing_ok (by have := wf.j64; omega) H) fun r S1 q => ?_)
  obtain ⟨rfl, rfl⟩ := q
  try(refine zz ?_;(repeat constructor);intro _)
  refine wp_row (j := 13) H 0 rfl rfl ?_
  refine wp_call (wpC_mono (cloneB_ok H 6 rfl (by have := wf.gl; have := wf.c64; omega)) fun r S2 H => ?_)
  exact wp_ret ⟨rfl, H⟩
theorem rflags_ok (wf : s.Wf) (H : Cx B0 W S (dOwn x s m ++ R) ro) : wpC EM (.fn (.func 41) [] []) [.ptr x 0] S fun r S' => Cx B0 W S' (.sl r 1 (bls s.flags) :: (dOwn x s m ++ R)) ro := by
  refine wpC_fn (b := Tryz.a41) rfl rfl ?_
  unfold Tryz.a41
  have hl : s.flags.length ≤ 64 := by have := wf.gl; have := wf.c64; omega
  refine wp_bslice0 H rfl fun u S1 H => ?_
  try(refine zz ?_;(repeat constructor);intro _)
  refine wp_row (j := 13) H 1 rfl rfl ?_
  refine wp_append (N := bls s.flags) H 0 rfl (slOk_elems (ownSl_ok (H.oh _ (List.mem_of_getElem? (i := 7) rfl)))) (bls_one _) (by rw [bls_len]; unfold maxBytes; simp only [List.length_nil]; omega) (by rw [bls_len]; unfold maxLenN; simp only [List.length_nil]; omega) fun v1 S2 H => ?_
  exact wp_ret ⟨rfl, H⟩
theorem livesF_ok {S : AH} {a : Int} : wpC EM (.fn (.func 64) [] []) [I a] S fun r S' => r = B (decide (2 ≤ a ∧ a ≤ 4)) ∧ S' = S := by
  refine wpC_fn (b := Tryz.a64) rfl rfl ?_
  unfold Tryz.a64
  refine wp_geq (fun h => ?_) (fun h => ?_)
  · try(refine zz ?_;(repeat constructor);intro _)
    refine wp_leq (fun h2 => ?_) (fun h2 => ?_)
    · try(refine zz ?_;(repeat constructor);intro _)
      exact wp_ret ⟨rfl, by rw [decide_eq_true ⟨h, h2⟩]; rfl, rfl⟩
    · try(refine zz ?_;(repeat constructor);intro _)
      exact wp_ret ⟨rfl, by rw [decide_eq_false (by omega)]; rfl, rfl⟩
  · try(refine zz ?_;(repeat constructor);intro _)
    exact wp_ret ⟨rfl, by rw [decide_eq_false (by omega)]; rfl, rfl⟩
theorem rlive_ok (wf : s.Wf) (H : Cx B0 W S (dOwn x s m ++ R) ro) : wpC EM (.fn (.func 39) [] []) [.ptr x 0] S fun r S' => ∃ L, StS (liv s.jobs) L ∧ L.length = (liv s.jobs).length ∧ Cx B0 W S' (.sl r 4 (lvs L) :: (dOwn x s m ++ R)) ro := by
  refine wpC_fn (b := Tryz.a39) rfl rfl ?_
  unfold Tryz.a39 Tryz.a39x5 Tryz.a39x4 Tryz.a39x3 Tryz.a39x2 Tryz.a39x1 Tryz.a39x0
  have hj := wf.j64
  have H := H.addNilS 4
  refine wp_bind (wp_loop (wpL_for s.jobs.length (fun i vs S1 => ∃ w : AV, vs = [I (i : Int), w] ∧ Cx B0 W S1 (.sl w 4 (lvs (liv (s.jobs.take i))) :: (dOwn x s m ++ R)) ro) ?_ ?_ ⟨_, rfl, H⟩))
  · clear H
    rintro i vs S1 hlt ⟨w, rfl, H⟩
    try(refine zz ?_;(repeat constructor);intro _)
    refine wp_row (j := 9) H 1 rfl rfl ?_
    refine wp_leno H 3 rfl ?_
    rw [jds_len]
    refine wp_lss_t (by omega) ?_
    have hx : s.jobs[i]? = some s.jobs[i] := List.getElem?_eq_getElem hlt
    have hxj := wf.jj i _ hx
    have hf := filter_succ (p := isLive) hlt
    generalize s.jobs[i] = y at hx hxj hf
    try(refine zz ?_;(repeat constructor);intro _)
    refine wp_bind ?_
    try(refine zz ?_;(repeat constructor);intro _)
    refine wp_row (j := 9) H 1 rfl rfl ?_
    refine wp_at (es := 3) H 3 rfl (by rw [jds_len]; exact hlt) fun id off hp => ?_
    refine wp_atLn H 3 rfl hp (jds_get? hx) (Nat.le_refl _) ?_
    refine wp_tmpN H rfl rfl rfl fun q S2 H => ?_
    have H : Cx B0 W S2 (.sl w 4 (lvs (liv (s.jobs.take i))) :: (dOwn x s m ++ R)) (.pt q 0 y.ds :: ro) := H
    try(refine zz ?_;(repeat constructor);intro _)
    refine wp_ld H (o := 0) (cs := y.ds) (by repeat (first | exact List.Mem.head _ | apply List.Mem.tail)) rfl ?_
    refine wp_call (wpC_mono livesF_ok fun r S3 z => ?_)
    obtain ⟨rfl, rfl⟩ := z
    have hll : (lvs (liv (s.jobs.take i))).length ≤ 64 := by rw [lvs_len]; have := List.length_filter_le isLive (s.jobs.take i); rw [List.length_take] at this; unfold liv; omega
    have eql : isLive y = decide (2 ≤ y.st ∧ y.st ≤ 4) := by
      unfold isLive
      by_cases h : 2 ≤ y.st ∧ y.st ≤ 4
      · rw [decide_eq_true h]
        have : y.st = 2 ∨ y.st = 3 ∨ y.st = 4 := by omega
        rcases this with h | h | h <;> simp [h]
      · rw [decide_eq_false h]
        have : y.st ≠ 2 ∧ y.st ≠ 3 ∧ y.st ≠ 4 := by omega
        simp [this]
    refine wp_bind ?_
    refine wp_ite_b (fun h => ?_) (fun h => ?_)
    · rw [eql, if_pos h] at hf
      try(refine zz ?_;(repeat constructor);intro _)
      refine wp_ld H (o := 0) (cs := y.ds) (by repeat (first | exact List.Mem.head _ | apply List.Mem.tail)) rfl ?_
      try(refine zz ?_;(repeat constructor);intro _)
      refine wp_ld H (o := 1) (cs := y.ds) (by repeat (first | exact List.Mem.head _ | apply List.Mem.tail)) rfl ?_
      try(refine zz ?_;(repeat constructor);intro _)
      refine wp_ld H (o := 2) (cs := y.ds) (by repeat (first | exact List.Mem.head _ | apply List.Mem.tail)) rfl ?_
      refine wp_op (v := .agg (Lv.cs ⟨i, y.st, y.core, y.key⟩)) rfl ?_
      have hyy : (⟨i, y.st, y.core, y.key⟩ : Lv) = y := by rw [← hxj]
      rw [hyy]
      refine wp_push (x := .agg y.cs) H 0 rfl rfl rfl rfl (by unfold maxBytes; omega) (by unfold maxLenN; omega) fun v1 S4 H => ?_
      have e1 : lvs (liv (s.jobs.take i)) ++ [(AV.agg y.cs).cells] = lvs (liv (s.jobs.take (i + 1))) := by
        have : liv (s.jobs.take (i + 1)) = liv (s.jobs.take i) ++ [y] := hf
        rw [this, lvs_app]; rfl
      rw [e1] at H
      refine wp_ret ?_
      show wp EM _ _ _
      refine wp_ret ?_
      show wp EM _ _ _
      exact wp_add64 (by omega) (by omega) (wp_ret (.inl ⟨rfl, v1, rfl, H.tl⟩))
    · rw [eql, if_neg (by simpa using h)] at hf
      refine wp_ret ?_
      show wp EM _ _ _
      refine wp_ret ?_
      show wp EM _ _ _
      have : liv (s.jobs.take (i + 1)) = liv (s.jobs.take i) := hf
      exact wp_add64 (by omega) (by omega) (wp_ret (.inl ⟨rfl, w, rfl, by rw [this]; exact H.tl⟩))
  · clear H
    rintro vs S1 ⟨w, rfl, H⟩
    rw [List.take_length] at H
    try(refine zz ?_;(repeat constructor);intro _)
    refine wp_row (j := 9) H 1 rfl rfl ?_
    refine wp_leno H 3 rfl ?_
    rw [jds_len]
    refine wp_lss_f (by omega) ?_
    try(refine zz ?_;(repeat constructor);intro _)
    refine wp_ret ⟨by simp, ?_⟩
    show wp EM _ _ _
    have hll : (liv s.jobs).length ≤ 64 := by have := List.length_filter_le isLive s.jobs; unfold liv; omega
    refine wp_call (wpC_mono (rorder_ok (X := liv s.jobs) (H.ownSl (n := 0) rfl) (by omega)) fun r S2 q => ?_)
    obtain ⟨L, h1, h2, K⟩ := q
    exact wp_ret ⟨rfl, L, h1, h2, (H.addC K).dropAt 1⟩
theorem rquiet_ok (wf : s.Wf) (hb : m.bx.length = s.mail.length) (H : Cx B0 W S (dOwn x s m ++ R) ro) : wpC EM (.fn (.func 42) [] []) [.ptr x 0] S fun r S' => r = B (decide s.quiet) ∧ S' = S := by
  refine wpC_fn (b := Tryz.a42) rfl rfl ?_
  unfold Tryz.a42 Tryz.a42x4 Tryz.a42x3 Tryz.a42x2 Tryz.a42x1 Tryz.a42x0
  have hc := wf.c64
  have hml := wf.ml
  have hgl := wf.gl
  have H : Cx B0 W S (dOwnG x s m m.bx ++ R) ro := H
  refine wp_bind (wp_loop (wpL_for s.flags.length (fun i vs S1 => ∃ u : AV, vs = [I (i : Int), u] ∧ S1 = S ∧ ∀ j, j < i → s.flags[j]? = some false ∧ s.mail[j]? = some []) ?_ ?_ ⟨_, rfl, rfl, fun j h => by omega⟩))
  · rintro i vs S1 hlt ⟨u, rfl, rfl, hall⟩
    have hg : s.flags[i]? = some s.flags[i] := List.getElem?_eq_getElem hlt
    have hgb := bls_get hlt
    generalize s.flags[i] = f at hg hgb
    have hil : i < s.mail.length := by omega
    have b1 : m.bx[i]? = some (m.bx[i]'(by omega)) := List.getElem?_eq_getElem _
    generalize m.bx[i]'(by omega) = bo at b1
    have b2 : s.mail[i]? = some s.mail[i] := List.getElem?_eq_getElem hil
    generalize s.mail[i] = bl at b2
    try(refine zz ?_;(repeat constructor);intro _)
    refine wp_row (j := 13) H 0 rfl rfl ?_
    refine wp_leno H 6 rfl ?_
    rw [bls_len]
    refine wp_lss_t (by omega) ?_
    try(refine zz ?_;(repeat constructor);intro _)
    refine wp_bind ?_
    try(refine zz ?_;(repeat constructor);intro _)
    refine wp_row (j := 13) H 0 rfl rfl ?_
    refine wp_at (es := 1) H 6 rfl (by rw [bls_len]; exact hlt) fun id off hp => ?_
    refine wp_atL0 H 6 rfl hp hgb rfl ?_
    have no : s.flags[i]? = some true ∨ bl ≠ [] → decide s.quiet = false := fun h => decide_eq_false fun q => by
      rcases h with h | h
      · exact q.1 (List.mem_of_getElem? h)
      · exact h (q.2 bl (List.mem_of_getElem? b2))
    cases f with
    | true =>
      try(refine zz ?_;(repeat constructor);intro _)
      refine wp_ret ?_
      refine .inr ⟨by simp, ?_⟩
      exact ⟨rfl, by rw [no (.inl hg)]; rfl, rfl⟩
    | false =>
      try(refine zz ?_;(repeat constructor);intro _)
      refine wp_row (j := 11) H 0 rfl rfl ?_
      try(refine zz ?_;(repeat constructor);intro _)
      refine wp_at (es := 1) H 4 rfl (by rw [ptrs_len]; omega) fun id off hp => ?_
      try(refine zz ?_;(repeat constructor);intro _)
      refine wp_atL0 H 4 rfl hp (ptrs_get? b1) rfl ?_
      try(refine zz ?_;(repeat constructor);intro _)
      refine wp_leno H (i + 7) (dbox_get b1 b2) ?_
      rw [ints_len]
      try(refine zz ?_;(repeat constructor);intro _)
      refine wp_gtr (fun h => ?_) (fun h => ?_)
      · try(refine zz ?_;(repeat constructor);intro _)
        refine wp_ret ?_
        refine .inr ⟨by simp, ?_⟩
        exact ⟨rfl, by rw [no (.inr (fun e => by subst e; simp at h))]; rfl, rfl⟩
      · try(refine zz ?_;(repeat constructor);intro _)
        refine wp_ret ?_
        show wp EM _ _ _
        refine wp_add64 (by omega) (by omega) (wp_ret (.inl ⟨rfl, _, rfl, rfl, fun j hj => ?_⟩))
        by_cases e : j = i
        · subst e
          have : bl = [] := List.eq_nil_of_length_eq_zero (by omega)
          exact ⟨hg, by rw [b2, this]⟩
        · exact hall j (by omega)
  · rintro vs S1 ⟨u, rfl, rfl, hall⟩
    try(refine zz ?_;(repeat constructor);intro _)
    refine wp_row (j := 13) H 0 rfl rfl ?_
    refine wp_leno H 6 rfl ?_
    rw [bls_len]
    refine wp_lss_f (by omega) ?_
    try(refine zz ?_;(repeat constructor);intro _)
    refine wp_ret ⟨by simp, ?_⟩
    show wp EM _ _ _
    refine wp_ret ⟨rfl, ?_, rfl⟩
    have q1 : true ∉ s.flags := fun h => by
      obtain ⟨j, hj⟩ := List.getElem?_of_mem h
      have := (hall j (List.getElem?_eq_some_iff.1 hj).1).1
      rw [hj] at this; cases this
    have q2 : ∀ l ∈ s.mail, l = [] := fun l hl => by
      obtain ⟨j, hj⟩ := List.getElem?_of_mem hl
      have := (hall j (by have := (List.getElem?_eq_some_iff.1 hj).1; omega)).2
      rw [hj] at this; exact Option.some.inj this
    have : decide s.quiet = true := decide_eq_true ⟨q1, q2⟩
    rw [this]; rfl
end
end Go.Abs
namespace Go.Abs
open Go.Proofs
set_option maxRecDepth 100000
set_option linter.unusedVariables false
open Tsk (Tk tks tchk tks_get tks_len)
theorem row_len {s : Ms} {m : Mv} : (s.row m).length = 14 := by simp [Ms.row, Su.cs]
theorem zip_app {nb : List AV} {b : AV} {ml : List (List Int)} {i : Nat} {l : List Int} (h : nb.length = i) (hi : ml[i]? = some l) : List.zipWith boxO (nb ++ [b]) (ml.take (i + 1)) = List.zipWith boxO nb (ml.take i) ++ [boxO b l] := by
  obtain ⟨h1, rfl⟩ := List.getElem?_eq_some_iff.1 hi
  rw [List.take_succ_eq_append_getElem h1, List.zipWith_append (by rw [List.length_take]; omega)]
  rfl
theorem get_midA {α : Type} (U V : List α) (y : α) : (U ++ y :: V)[U.length]? = some y := by simp
theorem set_midA {α : Type} (U V : List α) (x y : α) : (U ++ y :: V).set U.length x = U ++ x :: V := by simp
section
variable {B0 S : AH} {W : List Nat} {own R : List Own} {ro : List Fct} {Q : Post} {k : AV → AC} {v : AV} {x : Nat} {s : Ms} {m : Mv}
set_option maxHeartbeats 2000000 in
theorem copy_ok' (wf : s.Wf) (hbx : m.bx.length = s.mail.length) (hv : Fct.sl m.vt 4 (tks s.T) ∈ ro) (H : Cx B0 W S (mOwn x s m ++ R) ro) :
    wpC EM (.fn (.func 10) [] []) [.ptr x 0] S fun r S' => ∃ y m', r = .ptr y 0 ∧ m'.bx.length = s.mail.length ∧ m'.vt = m.vt ∧ Cx B0 W S' (mOwn y s m' ++ (mOwn x s m ++ R)) ro := by
  refine wpC_fn (b := Tryz.a10) rfl rfl ?_
  unfold Tryz.a10 Tryz.a10x10 Tryz.a10x9 Tryz.a10x8 Tryz.a10x7 Tryz.a10x6 Tryz.a10x5 Tryz.a10x4 Tryz.a10x3 Tryz.a10x2 Tryz.a10x1 Tryz.a10x0
  have hj := wf.j64
  have hc := wf.c64
  have hpl := wf.pl
  have hrl := wf.rl
  have hgl := wf.gl
  have hfl := wf.fl
  have hml := wf.ml
  have hT := (tchk_all wf.chk).1
  refine wp_call (wpC_mono (nothing_ok (by omega) H) fun r S1 q => ?_)
  obtain ⟨rfl, rfl⟩ := q
  try(refine zz ?_;(repeat constructor);intro _)
  refine wp_loadoa (n := 14) (off := 0) H 0 rfl (by rw [row_len]; omega) ?_
  have e0 : ((s.row m).drop 0).take 14 = s.row m := by rw [List.drop_zero, List.take_of_length_le (by rw [row_len]; omega)]
  rw [e0]
  refine wp_alloc H fun y S2 H => ?_
  refine wp_store (n := 14) H 0 rfl (by rfl) row_len (by simp) fun S3 H => ?_
  have e1 : setRange [I 0, I 0, I 0, I 0, I 0, I 0, Ns, Ns, I 0, Ns, Ns, Ns, Ns, Ns] 0 (s.row m) = s.row m := by
    rw [setRange_eq, List.take_zero, List.nil_append, Nat.zero_add, row_len, List.drop_eq_nil_of_le (by simp), List.append_nil]
  have H : Cx B0 W S3 (.obj y (.row (setRange [I 0, I 0, I 0, I 0, I 0, I 0, Ns, Ns, I 0, Ns, Ns, Ns, Ns, Ns] 0 (s.row m))) :: (mOwn x s m ++ R)) ro := H
  rw [e1] at H
  try(refine zz ?_;(repeat constructor);intro _)
  refine wp_row (j := 7) H 1 rfl rfl ?_
  refine wp_call (wpC_mono (cloneI_ok H 2 rfl (by omega)) fun vp S4 H => ?_)
  obtain ⟨o1, o2⟩ := slOk_odd1 (ownSl_ok (H.oh _ (List.Mem.head _)))
  try(refine zz ?_;(repeat constructor);intro _)
  refine wp_set1 (j := 7) H 1 rfl (by rw [row_len]; omega) o1 o2 fun S5 H => ?_
  have H : Cx B0 W S5 (.sl vp 1 (ints s.passed) :: .obj y (.row (s.row { m with vp := vp })) :: (mOwn x s m ++ R)) ro := H
  try(refine zz ?_;(repeat constructor);intro _)
  refine wp_row (j := 9) H 2 rfl rfl ?_
  refine wp_call (wpC_mono (cloneV_ok H 4 rfl (by omega)) fun vj S6 H => ?_)
  obtain ⟨o1, o2⟩ := slOk_odd1 (ownSl_ok (H.oh _ (List.Mem.head _)))
  try(refine zz ?_;(repeat constructor);intro _)
  refine wp_set1 (j := 9) H 2 rfl (by rw [row_len]; omega) o1 o2 fun S7 H => ?_
  have H : Cx B0 W S7 (.sl vj 4 (lvs s.jobs) :: .sl vp 1 (ints s.passed) :: .obj y (.row (s.row { m with vp := vp, vj := vj })) :: (mOwn x s m ++ R)) ro := H
  try(refine zz ?_;(repeat constructor);intro _)
  refine wp_row (j := 10) H 3 rfl rfl ?_
  refine wp_call (wpC_mono (cloneI_ok H 6 rfl (by omega)) fun vf S8 H => ?_)
  obtain ⟨o1, o2⟩ := slOk_odd1 (ownSl_ok (H.oh _ (List.Mem.head _)))
  try(refine zz ?_;(repeat constructor);intro _)
  refine wp_set1 (j := 10) H 3 rfl (by rw [row_len]; omega) o1 o2 fun S9 H => ?_
  have H : Cx B0 W S9 (.sl vf 1 (ints s.free) :: .sl vj 4 (lvs s.jobs) :: .sl vp 1 (ints s.passed) :: .obj y (.row (s.row { m with vp := vp, vj := vj, vf := vf })) :: (mOwn x s m ++ R)) ro := H
  try(refine zz ?_;(repeat constructor);intro _)
  refine wp_row (j := 12) H 4 rfl rfl ?_
  refine wp_call (wpC_mono (cloneI_ok H 9 rfl (by omega)) fun vr S10 H => ?_)
  obtain ⟨o1, o2⟩ := slOk_odd1 (ownSl_ok (H.oh _ (List.Mem.head _)))
  try(refine zz ?_;(repeat constructor);intro _)
  refine wp_set1 (j := 12) H 4 rfl (by rw [row_len]; omega) o1 o2 fun S11 H => ?_
  have H : Cx B0 W S11 (.sl vr 1 (ints s.runs) :: .sl vf 1 (ints s.free) :: .sl vj 4 (lvs s.jobs) :: .sl vp 1 (ints s.passed) :: .obj y (.row (s.row { m with vp := vp, vj := vj, vf := vf, vr := vr })) :: (mOwn x s m ++ R)) ro := H
  try(refine zz ?_;(repeat constructor);intro _)
  refine wp_row (j := 13) H 5 rfl rfl ?_
  refine wp_call (wpC_mono (cloneB_ok H 11 rfl (by omega)) fun vg S12 H => ?_)
  obtain ⟨o1, o2⟩ := slOk_odd1 (ownSl_ok (H.oh _ (List.Mem.head _)))
  try(refine zz ?_;(repeat constructor);intro _)
  refine wp_set1 (j := 13) H 5 rfl (by rw [row_len]; omega) o1 o2 fun S13 H => ?_
  have H : Cx B0 W S13 (.sl vg 1 (bls s.flags) :: .sl vr 1 (ints s.runs) :: .sl vf 1 (ints s.free) :: .sl vj 4 (lvs s.jobs) :: .sl vp 1 (ints s.passed) :: .obj y (.row (s.row { m with vp := vp, vj := vj, vf := vf, vr := vr, vg := vg })) :: (mOwn x s m ++ R)) ro := H
  try(refine zz ?_;(repeat constructor);intro _)
  refine wp_row (j := 11) H 6 rfl rfl ?_
  refine wp_call (wpC_mono (cloneP_ok H 10 rfl (by omega)) fun vm S14 H => ?_)
  obtain ⟨o1, o2⟩ := slOk_odd1 (ownSl_ok (H.oh _ (List.Mem.head _)))
  try(refine zz ?_;(repeat constructor);intro _)
  refine wp_set1 (j := 11) H 6 rfl (by rw [row_len]; omega) o1 o2 fun S15 H => ?_
  have H : Cx B0 W S15 (.sl vm 1 (ptrs m.bx) :: .sl vg 1 (bls s.flags) :: .sl vr 1 (ints s.runs) :: .sl vf 1 (ints s.free) :: .sl vj 4 (lvs s.jobs) :: .sl vp 1 (ints s.passed) :: .obj y (.row (s.row { m with vp := vp, vj := vj, vf := vf, vr := vr, vg := vg, vm := vm })) :: (mOwnG x s m m.bx ++ R)) ro := H
  try(refine zz ?_;(repeat constructor);intro _)
  refine wp_row (j := 11) H 6 rfl rfl ?_
  refine wp_leno H 0 rfl ?_
  rw [ptrs_len]
  refine wp_bind (wp_loop (wpL_for m.bx.length (fun i vs S1 => ∃ nb : List AV, vs = [I (i : Int)] ∧ nb.length = i ∧ Cx B0 W S1 (.sl vm 1 (ptrs (nb ++ m.bx.drop i)) :: .sl vg 1 (bls s.flags) :: .sl vr 1 (ints s.runs) :: .sl vf 1 (ints s.free) :: .sl vj 4 (lvs s.jobs) :: .sl vp 1 (ints s.passed) :: .obj y (.row (s.row { m with vp := vp, vj := vj, vf := vf, vr := vr, vg := vg, vm := vm })) :: (mOwnG x s m m.bx ++ (List.zipWith boxO nb (s.mail.take i) ++ R))) ro) ?_ ?_ ⟨[], rfl, rfl, by simpa using H⟩))
  · clear H
    rintro i vs S1 hlt ⟨nb, rfl, hnb, H⟩
    refine wp_lss_t (by omega) ?_
    have b1 : m.bx[i]? = some (m.bx[i]'(by omega)) := List.getElem?_eq_getElem _
    have hd : m.bx.drop i = m.bx[i] :: m.bx.drop (i + 1) := List.drop_eq_getElem_cons hlt
    generalize m.bx[i]'(by omega) = bo at b1 hd
    have hil : i < s.mail.length := by omega
    have b2 : s.mail[i]? = some s.mail[i] := List.getElem?_eq_getElem hil
    generalize s.mail[i] = bl at b2
    have hbl := (wf.mb _ (List.mem_of_getElem? b2)).1
    have hroom : s.su.room ≤ 16 := by have := wf.fine; unfold Su.fine at this; omega
    try(refine zz ?_;(repeat constructor);intro _)
    refine wp_bind ?_
    try(refine zz ?_;(repeat constructor);intro _)
    refine wp_row (j := 11) H 6 rfl rfl ?_
    try(refine zz ?_;(repeat constructor);intro _)
    refine wp_row (j := 11) H 7 rfl rfl ?_
    refine wp_at (es := 1) H 11 rfl (by rw [ptrs_len]; omega) fun id off hp => ?_
    refine wp_atL0 H 11 rfl hp (ptrs_get? b1) rfl ?_
    refine wp_call (wpC_mono (cloneI_ok H (i + 14) (box_get (x := x) (m := m) b1 b2) (by omega)) fun b S2 H => ?_)
    obtain ⟨o1, o2⟩ := slOk_odd1 (ownSl_ok (H.oh _ (List.Mem.head _)))
    have hvm : slOk S2 vm 1 (ptrs (nb ++ m.bx.drop i)) := ownSl_ok (H.oh _ (List.mem_of_getElem? (i := 1) rfl))
    refine wp_cko (o := 11) H 7 rfl rfl (beq_sl hvm) ?_
    have hg : (ptrs (nb ++ m.bx.drop i))[i]? = some [bo] := ptrs_get? (by rw [hd, ← hnb]; exact get_midA nb _ bo)
    refine wp_at (es := 1) (i := i) H 1 rfl (by rw [ptrs_len, List.length_append, List.length_drop]; omega) fun id2 off2 hp2 => ?_
    refine wp_atS0 H 1 rfl hp2 hg o1 o2 (by omega) (by simp) fun S3 H => ?_
    have e3 : (ptrs (nb ++ m.bx.drop i)).set i ([bo].set 0 b) = ptrs ((nb ++ [b]) ++ m.bx.drop (i + 1)) := by
      have : (nb ++ m.bx.drop i).set i b = (nb ++ [b]) ++ m.bx.drop (i + 1) := by rw [hd, ← hnb, set_midA]; simp
      rw [← this]
      exact ptrs_set _ _ _
    have H : Cx B0 W S3 ((.sl b 1 (ints bl) :: .sl vm 1 (ptrs (nb ++ m.bx.drop i)) :: .sl vg 1 (bls s.flags) :: .sl vr 1 (ints s.runs) :: .sl vf 1 (ints s.free) :: .sl vj 4 (lvs s.jobs) :: .sl vp 1 (ints s.passed) :: .obj y (.row (s.row { m with vp := vp, vj := vj, vf := vf, vr := vr, vg := vg, vm := vm })) :: (mOwnG x s m m.bx ++ (List.zipWith boxO nb (s.mail.take i) ++ R))).set 1 (.sl vm 1 ((ptrs (nb ++ m.bx.drop i)).set i ([bo].set 0 b)))) ro := H
    rw [e3] at H
    have H : Cx B0 W S3 (.sl b 1 (ints bl) :: .sl vm 1 (ptrs ((nb ++ [b]) ++ m.bx.drop (i + 1))) :: .sl vg 1 (bls s.flags) :: .sl vr 1 (ints s.runs) :: .sl vf 1 (ints s.free) :: .sl vj 4 (lvs s.jobs) :: .sl vp 1 (ints s.passed) :: .obj y (.row (s.row { m with vp := vp, vj := vj, vf := vf, vr := vr, vg := vg, vm := vm })) :: (mOwnG x s m m.bx ++ (List.zipWith boxO nb (s.mail.take i) ++ R))) ro := H
    refine wp_ret ?_
    show wp EM _ _ _
    refine wp_add64 (by omega) (by omega) (wp_ret (.inl ⟨rfl, nb ++ [b], rfl, by simp [hnb], ?_⟩))
    rw [zip_app hnb b2]
    have H : Cx B0 W S3 (.sl b 1 (ints bl) :: (([.sl vm 1 (ptrs ((nb ++ [b]) ++ m.bx.drop (i + 1))), .sl vg 1 (bls s.flags), .sl vr 1 (ints s.runs), .sl vf 1 (ints s.free), .sl vj 4 (lvs s.jobs), .sl vp 1 (ints s.passed), .obj y (.row (s.row { m with vp := vp, vj := vj, vf := vf, vr := vr, vg := vg, vm := vm }))] ++ mOwnG x s m m.bx ++ List.zipWith boxO nb (s.mail.take i)) ++ R)) ro := by
      simpa only [List.append_assoc, List.cons_append, List.nil_append] using H
    have H := Cx.inn (a := boxO b bl) H
    simpa only [List.append_assoc, List.cons_append, List.nil_append] using H
  · clear H
    rintro vs S1 ⟨nb, rfl, hnb, H⟩
    refine wp_lss_f (by omega) ?_
    try(refine zz ?_;(repeat constructor);intro _)
    refine wp_ret ⟨by simp, ?_⟩
    show wp EM _ _ _
    refine wp_ret ⟨rfl, y, { m with vp := vp, vj := vj, vf := vf, vr := vr, vg := vg, vm := vm, bx := nb }, rfl, by show nb.length = _; omega, rfl, ?_⟩
    rw [List.drop_of_length_le (Nat.le_refl _), List.append_nil, hbx, List.take_length] at H
    have p1 : ∀ (a c d e f g h : Own) (Z : List Own), (a :: c :: d :: e :: f :: g :: h :: Z).Perm (h :: g :: f :: e :: a :: d :: c :: Z) := by
      intro a c d e f g h Z
      refine List.Perm.trans (List.perm_middle (l₁ := [a, c, d, e, f, g]) (a := h) (l₂ := Z)) (List.Perm.cons _ ?_)
      refine List.Perm.trans (List.perm_middle (l₁ := [a, c, d, e, f]) (a := g) (l₂ := Z)) (List.Perm.cons _ ?_)
      refine List.Perm.trans (List.perm_middle (l₁ := [a, c, d, e]) (a := f) (l₂ := Z)) (List.Perm.cons _ ?_)
      refine List.Perm.trans (List.perm_middle (l₁ := [a, c, d]) (a := e) (l₂ := Z)) (List.Perm.cons _ (List.Perm.cons _ ?_))
      exact List.Perm.swap _ _ _
    have H := H.perm (p1 _ _ _ _ _ _ _ _)
    refine H.perm ?_
    show List.Perm _ ([.obj y (.row (s.row { m with vp := vp, vj := vj, vf := vf, vr := vr, vg := vg, vm := vm })), .sl vp 1 (ints s.passed), .sl vj 4 (lvs s.jobs), .sl vf 1 (ints s.free), .sl vm 1 (ptrs nb), .sl vr 1 (ints s.runs), .sl vg 1 (bls s.flags)] ++ (List.zipWith boxO nb s.mail ++ (mOwn x s m ++ R)))
    refine List.Perm.append_left [_, _, _, _, _, _, _] ?_
    exact List.perm_append_comm_assoc (mOwn x s m) (List.zipWith boxO nb s.mail) R
end
end Go.Abs
namespace Go.Abs
open Go.Proofs
set_option maxRecDepth 100000
set_option linter.unusedVariables false
open Tsk (Tk tks tchk tks_get tks_len)
section
variable {B0 S : AH} {W : List Nat} {own R : List Own} {ro : List Fct} {Q : Post} {k : AV → AC} {v : AV} {x : Nat} {s : Ms} {m : Mv}
set_option maxHeartbeats 2000000 in
theorem rcopy_ok (wf : s.Wf) (hbx : m.bx.length = s.mail.length) (H : Cx B0 W S (dOwn x s m ++ R) ro) :
    wpC EM (.fn (.func 11) [] []) [.ptr x 0] S fun r S' => ∃ y m', r = .ptr y 0 ∧ m'.bx.length = s.mail.length ∧ m'.vt = m.vt ∧ Cx B0 W S' (dOwn y s m' ++ (dOwn x s m ++ R)) ro := by
  refine wpC_fn (b := Tryz.a11) rfl rfl ?_
  unfold Tryz.a11 Tryz.a11x9 Tryz.a11x8 Tryz.a11x7 Tryz.a11x6 Tryz.a11x5 Tryz.a11x4 Tryz.a11x3 Tryz.a11x2 Tryz.a11x1 Tryz.a11x0
  have hj := wf.j64
  have hc := wf.c64
  have hpl := wf.pl
  have hrl := wf.rl
  have hgl := wf.gl
  have hfl := wf.fl
  have hml := wf.ml
  have hT := (tchk_all wf.chk).1
  try(refine zz ?_;(repeat constructor);intro _)
  refine wp_loadoa (n := 14) (off := 0) H 0 rfl (by rw [row_len]; omega) ?_
  have e0 : ((s.row m).drop 0).take 14 = s.row m := by rw [List.drop_zero, List.take_of_length_le (by rw [row_len]; omega)]
  rw [e0]
  refine wp_alloc H fun y S2 H => ?_
  refine wp_store (n := 14) H 0 rfl (by rfl) row_len (by simp) fun S3 H => ?_
  have e1 : setRange [I 0, I 0, I 0, I 0, I 0, I 0, Ns, Ns, I 0, Ns, Ns, Ns, Ns, Ns] 0 (s.row m) = s.row m := by
    rw [setRange_eq, List.take_zero, List.nil_append, Nat.zero_add, row_len, List.drop_eq_nil_of_le (by simp), List.append_nil]
  have H : Cx B0 W S3 (.obj y (.row (setRange [I 0, I 0, I 0, I 0, I 0, I 0, Ns, Ns, I 0, Ns, Ns, Ns, Ns, Ns] 0 (s.row m))) :: (dOwn x s m ++ R)) ro := H
  rw [e1] at H
  try(refine zz ?_;(repeat constructor);intro _)
  refine wp_row (j := 7) H 1 rfl rfl ?_
  refine wp_call (wpC_mono (copyI_ok (l := pas s.passed) H 2 rfl (by rw [pas_len]; omega)) fun vp S4 H => ?_)
  obtain ⟨o1, o2⟩ := slOk_odd1 (ownSl_ok (H.oh _ (List.Mem.head _)))
  try(refine zz ?_;(repeat constructor);intro _)
  refine wp_set1 (j := 7) H 1 rfl (by rw [row_len]; omega) o1 o2 fun S5 H => ?_
  have H : Cx B0 W S5 (.sl vp 1 (ints (pas s.passed)) :: .obj y (.row (s.row { m with vp := vp })) :: (dOwn x s m ++ R)) ro := H
  refine wp_bslice0 H rfl fun u S6 H => ?_
  try(refine zz ?_;(repeat constructor);intro _)
  refine wp_row (j := 9) H 3 rfl rfl ?_
  refine wp_append (N := jds s.jobs) H 0 rfl (slOk_elems (ownSl_ok (H.oh _ (List.mem_of_getElem? (i := 5) rfl)))) (jds_one _) (by rw [jds_len]; unfold maxBytes; simp only [List.length_nil]; omega) (by rw [jds_len]; unfold maxLenN; simp only [List.length_nil]; omega) fun vj S6 H => ?_
  have H : Cx B0 W S6 (.sl vj 3 (jds s.jobs) :: .sl vp 1 (ints (pas s.passed)) :: .obj y (.row (s.row { m with vp := vp })) :: (dOwn x s m ++ R)) ro := H
  obtain ⟨o1, o2⟩ := slOk_odd1 (ownSl_ok (H.oh _ (List.Mem.head _)))
  try(refine zz ?_;(repeat constructor);intro _)
  refine wp_set1 (j := 9) H 2 rfl (by rw [row_len]; omega) o1 o2 fun S7 H => ?_
  have H : Cx B0 W S7 (.sl vj 3 (jds s.jobs) :: .sl vp 1 (ints (pas s.passed)) :: .obj y (.row (s.row { m with vp := vp, vj := vj })) :: (dOwn x s m ++ R)) ro := H
  try(refine zz ?_;(repeat constructor);intro _)
  refine wp_row (j := 10) H 3 rfl rfl ?_
  refine wp_call (wpC_mono (copyI_ok H 6 rfl (by omega)) fun vf S8 H => ?_)
  obtain ⟨o1, o2⟩ := slOk_odd1 (ownSl_ok (H.oh _ (List.Mem.head _)))
  try(refine zz ?_;(repeat constructor);intro _)
  refine wp_set1 (j := 10) H 3 rfl (by rw [row_len]; omega) o1 o2 fun S9 H => ?_
  have H : Cx B0 W S9 (.sl vf 1 (ints s.free) :: .sl vj 3 (jds s.jobs) :: .sl vp 1 (ints (pas s.passed)) :: .obj y (.row (s.row { m with vp := vp, vj := vj, vf := vf })) :: (dOwn x s m ++ R)) ro := H
  try(refine zz ?_;(repeat constructor);intro _)
  refine wp_row (j := 12) H 4 rfl rfl ?_
  refine wp_call (wpC_mono (copyI_ok H 9 rfl (by omega)) fun vr S10 H => ?_)
  obtain ⟨o1, o2⟩ := slOk_odd1 (ownSl_ok (H.oh _ (List.Mem.head _)))
  try(refine zz ?_;(repeat constructor);intro _)
  refine wp_set1 (j := 12) H 4 rfl (by rw [row_len]; omega) o1 o2 fun S11 H => ?_
  have H : Cx B0 W S11 (.sl vr 1 (ints s.runs) :: .sl vf 1 (ints s.free) :: .sl vj 3 (jds s.jobs) :: .sl vp 1 (ints (pas s.passed)) :: .obj y (.row (s.row { m with vp := vp, vj := vj, vf := vf, vr := vr })) :: (dOwn x s m ++ R)) ro := H
  refine wp_bslice0 H rfl fun u2 S12 H => ?_
  try(refine zz ?_;(repeat constructor);intro _)
  refine wp_row (j := 13) H 6 rfl rfl ?_
  refine wp_append (N := bls s.flags) H 0 rfl (slOk_elems (ownSl_ok (H.oh _ (List.mem_of_getElem? (i := 12) rfl)))) (bls_one _) (by rw [bls_len]; unfold maxBytes; simp only [List.length_nil]; omega) (by rw [bls_len]; unfold maxLenN; simp only [List.length_nil]; omega) fun vg S12 H => ?_
  have H : Cx B0 W S12 (.sl vg 1 (bls s.flags) :: .sl vr 1 (ints s.runs) :: .sl vf 1 (ints s.free) :: .sl vj 3 (jds s.jobs) :: .sl vp 1 (ints (pas s.passed)) :: .obj y (.row (s.row { m with vp := vp, vj := vj, vf := vf, vr := vr })) :: (dOwn x s m ++ R)) ro := H
  obtain ⟨o1, o2⟩ := slOk_odd1 (ownSl_ok (H.oh _ (List.Mem.head _)))
  try(refine zz ?_;(repeat constructor);intro _)
  refine wp_set1 (j := 13) H 5 rfl (by rw [row_len]; omega) o1 o2 fun S13 H => ?_
  have H : Cx B0 W S13 (.sl vg 1 (bls s.flags) :: .sl vr 1 (ints s.runs) :: .sl vf 1 (ints s.free) :: .sl vj 3 (jds s.jobs) :: .sl vp 1 (ints (pas s.passed)) :: .obj y (.row (s.row { m with vp := vp, vj := vj, vf := vf, vr := vr, vg := vg })) :: (dOwn x s m ++ R)) ro := H
  try(refine zz ?_;(repeat constructor);intro _)
  refine wp_set1 (j := 11) H 5 rfl (by rw [row_len]; omega) rfl rfl fun S14 H => ?_
  have H := H.addNilS 1
  have H : Cx B0 W S14 (.sl Ns 1 (ptrs []) :: .sl vg 1 (bls s.flags) :: .sl vr 1 (ints s.runs) :: .sl vf 1 (ints s.free) :: .sl vj 3 (jds s.jobs) :: .sl vp 1 (ints (pas s.passed)) :: .obj y (.row (s.row { m with vp := vp, vj := vj, vf := vf, vr := vr, vg := vg, vm := Ns })) :: (dOwnG x s m m.bx ++ R)) ro := H
  refine wp_bind (wp_loop (wpL_for m.bx.length (fun i vs S1 => ∃ (vm : AV) (nb : List AV), vs = [I (i : Int)] ∧ nb.length = i ∧ Cx B0 W S1 (.sl vm 1 (ptrs nb) :: .sl vg 1 (bls s.flags) :: .sl vr 1 (ints s.runs) :: .sl vf 1 (ints s.free) :: .sl vj 3 (jds s.jobs) :: .sl vp 1 (ints (pas s.passed)) :: .obj y (.row (s.row { m with vp := vp, vj := vj, vf := vf, vr := vr, vg := vg, vm := vm })) :: (dOwnG x s m m.bx ++ (List.zipWith boxO nb (s.mail.take i) ++ R))) ro) ?_ ?_ ⟨Ns, [], rfl, rfl, by simpa using H⟩))
  · clear H
    rintro i vs S1 hlt ⟨vm, nb, rfl, hnb, H⟩
    try(refine zz ?_;(repeat constructor);intro _)
    refine wp_row (j := 11) H 7 rfl rfl ?_
    refine wp_leno H 11 rfl ?_
    rw [ptrs_len]
    refine wp_lss_t (by omega) ?_
    have b1 : m.bx[i]? = some (m.bx[i]'(by omega)) := List.getElem?_eq_getElem _
    generalize m.bx[i]'(by omega) = bo at b1
    have hil : i < s.mail.length := by omega
    have b2 : s.mail[i]? = some s.mail[i] := List.getElem?_eq_getElem hil
    generalize s.mail[i] = bl at b2
    have hbl := (wf.mb _ (List.mem_of_getElem? b2)).1
    have hroom : s.su.room ≤ 16 := by have := wf.fine; unfold Su.fine at this; omega
    try(refine zz ?_;(repeat constructor);intro _)
    refine wp_bind ?_
    try(refine zz ?_;(repeat constructor);intro _)
    refine wp_row (j := 11) H 6 rfl rfl ?_
    try(refine zz ?_;(repeat constructor);intro _)
    refine wp_row (j := 11) H 7 rfl rfl ?_
    refine wp_at (es := 1) H 11 rfl (by rw [ptrs_len]; omega) fun id off hp => ?_
    refine wp_atL0 H 11 rfl hp (ptrs_get? b1) rfl ?_
    refine wp_call (wpC_mono (copyI_ok H (i + 14) (dbox_get (x := x) (m := m) b1 b2) (by omega)) fun b S2 H => ?_)
    obtain ⟨o1, o2⟩ := slOk_odd1 (ownSl_ok (H.oh _ (List.Mem.head _)))
    have hvm : slOk S2 vm 1 (ptrs nb) := ownSl_ok (H.oh _ (List.mem_of_getElem? (i := 1) rfl))
    refine wp_cko (o := 11) H 7 rfl rfl (beq_sl hvm) ?_
    refine wp_push (x := b) H 1 rfl o1 (by rw [o2]; rfl) rfl (by rw [ptrs_len]; unfold maxBytes; omega) (by rw [ptrs_len]; unfold maxLenN; omega) fun vm2 S3 H => ?_
    have e3 : ptrs nb ++ [b.cells] = ptrs (nb ++ [b]) := by rw [o2]; unfold ptrs; rw [List.map_append]; rfl
    rw [e3] at H
    obtain ⟨o3, o4⟩ := slOk_odd1 (ownSl_ok (H.oh (.sl vm2 1 (ptrs (nb ++ [b]))) (List.mem_of_getElem? (i := 1) rfl)))
    try(refine zz ?_;(repeat constructor);intro _)
    refine wp_set1 (j := 11) H 7 rfl (by rw [row_len]; omega) o3 o4 fun S4 H => ?_
    have H : Cx B0 W S4 (.sl b 1 (ints bl) :: .sl vm2 1 (ptrs (nb ++ [b])) :: .sl vg 1 (bls s.flags) :: .sl vr 1 (ints s.runs) :: .sl vf 1 (ints s.free) :: .sl vj 3 (jds s.jobs) :: .sl vp 1 (ints (pas s.passed)) :: .obj y (.row (s.row { m with vp := vp, vj := vj, vf := vf, vr := vr, vg := vg, vm := vm2 })) :: (dOwnG x s m m.bx ++ (List.zipWith boxO nb (s.mail.take i) ++ R))) ro := H
    refine wp_ret ?_
    show wp EM _ _ _
    refine wp_add64 (by omega) (by omega) (wp_ret (.inl ⟨rfl, vm2, nb ++ [b], rfl, by simp [hnb], ?_⟩))
    rw [zip_app hnb b2]
    have H : Cx B0 W S4 (.sl b 1 (ints bl) :: (([.sl vm2 1 (ptrs (nb ++ [b])), .sl vg 1 (bls s.flags), .sl vr 1 (ints s.runs), .sl vf 1 (ints s.free), .sl vj 3 (jds s.jobs), .sl vp 1 (ints (pas s.passed)), .obj y (.row (s.row { m with vp := vp, vj := vj, vf := vf, vr := vr, vg := vg, vm := vm2 }))] ++ dOwnG x s m m.bx ++ List.zipWith boxO nb (s.mail.take i)) ++ R)) ro := by
      simpa only [List.append_assoc, List.cons_append, List.nil_append] using H
    have H := Cx.inn (a := boxO b bl) H
    simpa only [List.append_assoc, List.cons_append, List.nil_append] using H
  · clear H
    rintro vs S1 ⟨vm, nb, rfl, hnb, H⟩
    try(refine zz ?_;(repeat constructor);intro _)
    refine wp_row (j := 11) H 7 rfl rfl ?_
    refine wp_leno H 11 rfl ?_
    rw [ptrs_len]
    refine wp_lss_f (by omega) ?_
    try(refine zz ?_;(repeat constructor);intro _)
    refine wp_ret ⟨by simp, ?_⟩
    show wp EM _ _ _
    refine wp_ret ⟨rfl, y, { m with vp := vp, vj := vj, vf := vf, vr := vr, vg := vg, vm := vm, bx := nb }, rfl, by show nb.length = _; omega, rfl, ?_⟩
    rw [hbx, List.take_length] at H
    have p1 : ∀ (a c d e f g h : Own) (Z : List Own), (a :: c :: d :: e :: f :: g :: h :: Z).Perm (h :: g :: f :: e :: a :: d :: c :: Z) := by
      intro a c d e f g h Z
      refine List.Perm.trans (List.perm_middle (l₁ := [a, c, d, e, f, g]) (a := h) (l₂ := Z)) (List.Perm.cons _ ?_)
      refine List.Perm.trans (List.perm_middle (l₁ := [a, c, d, e, f]) (a := g) (l₂ := Z)) (List.Perm.cons _ ?_)
      refine List.Perm.trans (List.perm_middle (l₁ := [a, c, d, e]) (a := f) (l₂ := Z)) (List.Perm.cons _ ?_)
      refine List.Perm.trans (List.perm_middle (l₁ := [a, c, d]) (a := e) (l₂ := Z)) (List.Perm.cons _ (List.Perm.cons _ ?_))
      exact List.Perm.swap _ _ _
    have H := H.perm (p1 _ _ _ _ _ _ _ _)
    refine H.perm ?_
    show List.Perm _ ([.obj y (.row (s.row { m with vp := vp, vj := vj, vf := vf, vr := vr, vg := vg, vm := vm })), .sl vp 1 (ints (pas s.passed)), .sl vj 3 (jds s.jobs), .sl vf 1 (ints s.free), .sl vm 1 (ptrs nb), .sl vr 1 (ints s.runs), .sl vg 1 (bls s.flags)] ++ (List.zipWith boxO nb s.mail ++ (dOwn x s m ++ R)))
    refine List.Perm.append_left [_, _, _, _, _, _, _] ?_
    exact List.perm_append_comm_assoc (dOwn x s m) (List.zipWith boxO nb s.mail) R
end
end Go.Abs
namespace Go.Abs
open Go.Proofs
set_option maxRecDepth 100000
set_option linter.unusedVariables false
open Tsk (Tk tks tchk tks_get tks_len)
def ksL : List (Option IntKind) := [some .i64, some .i64, some .i64, some .u64]
theorem strL : isStructB EM.P 62 = true := by kernel_rfl
theorem grdL : EM.P.eqGuardType EM.P.depth 62 = false := by kernel_rfl
theorem flatL4 : flatT EM.P 2 62 = some ksL := by kernel_rfl
def lvv (x : Lv) : List Value := [.int .i64 x.job, .int .i64 x.st, .int .i64 x.core, .int .u64 x.key]
theorem lvs_scs (l : List Lv) : lvs l = (l.map lvv).map scs := by
  unfold lvs
  rw [List.map_map]
  rfl
theorem sameL_ok {S : AH} {v v' : AV} {l : List Lv} (hv : RoSl S v 4 (lvs l)) (hv' : RoSl S v' 4 (lvs l)) (hl : l.length ≤ 100000) : wpC EM (.fn (.func 38) [] []) [v, v'] S fun r S' => r = B true ∧ Grows S S' := by
  rw [lvs_scs] at hv hv'
  exact sameS_ok (t := 62) (d := 2) (ks := ksL) rfl rfl hv hv' (by rw [List.length_map]; omega) rfl rfl flatL4 (by omega) strL grdL (fun vs hvs => by obtain ⟨x, _, rfl⟩ := List.mem_map.1 hvs; rfl)
theorem overL_ok {S : AH} {v : AV} {L : List (List AV)} (h : slW S v 4 L) (hid : ∀ id ∈ vids v, id < S.next) (hl : L.length < 4611686018427387904) : wpC EM (.fn (.func 43) [] []) [v] S fun _ S' => Turned S v 4 L.length S' :=
  over_ok (es := 4) (mk := fun k => .op (.build [I 0, I 0, I 0, U 0] [(0, 1, I (-77))]) k) (y := .agg [I (-77), I 0, I 0, U 0]) rfl rfl (fun h => wp_op (by rfl) h) rfl rfl h hid hl
theorem sameBl_ok {S : AH} {v v' : AV} {l : List Bool} (hv : RoSl S v 1 (bls l)) (hv' : RoSl S v' 1 (bls l)) (hl : l.length ≤ 100000) : wpC EM (.fn (.func 40) [] []) [v, v'] S fun r S' => r = B true ∧ Grows S S' := by
  refine same_ok (es := 1) (cmp := fun a b k => .op (.eq 4 false a b) k) rfl rfl hv hv' (by rw [bls_len]; omega) (fun _ => True) (fun x hx id off S1 k Q hp hw => ?_) (fun x hx S1 k Q hw => ?_)
  · obtain ⟨n, hn, rfl⟩ := List.mem_map.1 hx
    obtain ⟨c, h1, h2⟩ := pt_get (j := 0) hp rfl
    exact wp_op (e_load1 h1 h2) (hw _ rfl)
  · obtain ⟨n, hn, rfl⟩ := List.mem_map.1 hx
    refine wp_op (e_eqb undB) ?_
    have e : (if false = true then !(n == n) else (n == n)) = true := by simp
    rw [e]
    exact hw
section
variable {B0 S : AH} {W : List Nat} {own R : List Own} {ro : List Fct} {Q : Post} {k : AV → AC} {v : AV} {x d : Nat} {s : Ms} {m m2 : Mv}
theorem Cx.toF {P l : List Own} (H : Cx B0 W S (P ++ (l ++ R)) ro) : Cx B0 W S (l ++ (P ++ R)) ro := H.perm (List.perm_append_comm_assoc _ _ _)
theorem Cx.unF {P l : List Own} {r : Own} (H : Cx B0 W S (r :: (l ++ (P ++ R))) ro) : Cx B0 W S (r :: (P ++ (l ++ R))) ro := H.perm (List.Perm.cons _ (List.perm_append_comm_assoc _ _ _))
theorem Cx.toD {P X D : List Own} (H : Cx B0 W S (P ++ (X ++ (D ++ R))) ro) : Cx B0 W S (D ++ (P ++ (X ++ R))) ro := by
  refine H.perm ?_
  have := List.perm_append_comm_assoc (P ++ X) D R
  simpa only [List.append_assoc] using this
theorem Cx.unD {P X D : List Own} {r : Own} (H : Cx B0 W S (r :: (D ++ (P ++ (X ++ R)))) ro) : Cx B0 W S (r :: (P ++ (X ++ (D ++ R)))) ro := by
  refine H.perm (List.Perm.cons _ ?_)
  have := List.perm_append_comm_assoc D (P ++ X) R
  simpa only [List.append_assoc] using this
theorem stsLen {L : List Lv} (wf : s.Wf) (h : L.length = (liv s.jobs).length) : L.length ≤ 64 := by
  have := List.length_filter_le isLive s.jobs
  have := wf.j64
  unfold liv at h
  omega
theorem stands_ok (wf : s.Wf) (hb : m.bx.length = s.mail.length) (hb2 : m2.bx.length = s.mail.length) (H : Cx B0 W S (mOwn x s m ++ (dOwn d s m2 ++ R)) ro) :
    wpC EM (.fn (.func 14) [] []) [.ptr x 0, .ptr d 0] S fun r S' => r = B true ∧ Cx B0 W S' (mOwn x s m ++ (dOwn d s m2 ++ R)) ro := by
  refine wpC_fn (b := Tryz.a14) rfl rfl ?_
  unfold Tryz.a14 Tryz.a14x6 Tryz.a14x5 Tryz.a14x4 Tryz.a14x3 Tryz.a14x2 Tryz.a14x1 Tryz.a14x0
  have hgl := wf.gl
  have hc := wf.c64
  have hj := wf.j64
  refine wp_call (wpC_mono (live_ok wf hj.2 H) fun a S1 q => ?_)
  obtain ⟨L, h1, h2, H⟩ := q
  have hL := stsLen wf h2
  refine wp_call (wpC_mono (flags_ok wf (Cx.toF (l := mOwn x s m) (R := dOwn d s m2 ++ R) (P := [.sl a 4 (lvs L)]) H)) fun f S2 H => ?_)
  have H : Cx B0 W S2 (.sl f 1 (bls s.flags) :: .sl a 4 (lvs L) :: (mOwn x s m ++ (dOwn d s m2 ++ R))) ro := Cx.unF (l := mOwn x s m) (R := dOwn d s m2 ++ R) (P := [.sl a 4 (lvs L)]) H
  refine wp_call (wpC_mono (rlive_ok wf (Cx.toD (X := mOwn x s m) (D := dOwn d s m2) (R := R) (P := [.sl f 1 (bls s.flags), .sl a 4 (lvs L)]) H)) fun c S3 q => ?_)
  obtain ⟨L2, h3, h4, H⟩ := q
  obtain rfl : L2 = L := h3.uniq h1
  have H : Cx B0 W S3 (.sl c 4 (lvs L2) :: .sl f 1 (bls s.flags) :: .sl a 4 (lvs L2) :: (mOwn x s m ++ (dOwn d s m2 ++ R))) ro := Cx.unD (X := mOwn x s m) (D := dOwn d s m2) (R := R) (P := [.sl f 1 (bls s.flags), .sl a 4 (lvs L2)]) H
  refine wp_callV H (sameL_ok (H.ownSl (n := 2) rfl) (H.ownSl (n := 0) rfl) (by omega)) fun S4 H => ?_
  try(refine zz ?_;(repeat constructor);intro _)
  refine wp_call (wpC_mono (rflags_ok wf (Cx.toD (X := mOwn x s m) (D := dOwn d s m2) (R := R) (P := [.sl c 4 (lvs L2), .sl f 1 (bls s.flags), .sl a 4 (lvs L2)]) H)) fun g S5 H => ?_)
  have H : Cx B0 W S5 (.sl g 1 (bls s.flags) :: .sl c 4 (lvs L2) :: .sl f 1 (bls s.flags) :: .sl a 4 (lvs L2) :: (mOwn x s m ++ (dOwn d s m2 ++ R))) ro := Cx.unD (X := mOwn x s m) (D := dOwn d s m2) (R := R) (P := [.sl c 4 (lvs L2), .sl f 1 (bls s.flags), .sl a 4 (lvs L2)]) H
  try(refine zz ?_;(repeat constructor);intro _)
  refine wp_callV H (sameBl_ok (H.ownSl (n := 2) rfl) (H.ownSl (n := 0) rfl) (by omega)) fun S6 H => ?_
  try(refine zz ?_;(repeat constructor);intro _)
  refine wp_call (wpC_mono (quiet_ok wf hb (Cx.toF (l := mOwn x s m) (R := dOwn d s m2 ++ R) (P := [.sl g 1 (bls s.flags), .sl c 4 (lvs L2), .sl f 1 (bls s.flags), .sl a 4 (lvs L2)]) H)) fun r S7 q => ?_)
  obtain ⟨rfl, rfl⟩ := q
  try(refine zz ?_;(repeat constructor);intro _)
  refine wp_call (wpC_mono (rquiet_ok wf hb2 (Cx.toD (X := mOwn x s m) (D := dOwn d s m2) (R := R) (P := [.sl g 1 (bls s.flags), .sl c 4 (lvs L2), .sl f 1 (bls s.flags), .sl a 4 (lvs L2)]) H)) fun r S7 q => ?_)
  obtain ⟨rfl, rfl⟩ := q
  try(refine zz ?_;(repeat constructor);intro _)
  refine wp_op (e_eqb undB) ?_
  have e : (if false = true then !(decide s.quiet == decide s.quiet) else (decide s.quiet == decide s.quiet)) = true := by simp
  rw [e]
  try(refine zz ?_;(repeat constructor);intro _)
  refine wp_callT H 3 rfl (overL_ok (H.oh _ (List.mem_of_getElem? (i := 3) rfl)) (fun id hid => (H.oi _ (List.mem_of_getElem? (i := 3) rfl) id hid).1) (by rw [lvs_len]; omega)) fun u S8 L' H => ?_
  have H : Cx B0 W S8 (.sl g 1 (bls s.flags) :: .sl c 4 (lvs L2) :: .sl f 1 (bls s.flags) :: .sl a 4 L' :: (mOwn x s m ++ (dOwn d s m2 ++ R))) ro := H
  refine wp_bind (wp_loop (wpL_for s.flags.length (fun i vs S1 => ∃ F : List Bool, vs = [I (i : Int)] ∧ F.length = s.flags.length ∧ Cx B0 W S1 (.sl g 1 (bls s.flags) :: .sl c 4 (lvs L2) :: .sl f 1 (bls F) :: .sl a 4 L' :: (mOwn x s m ++ (dOwn d s m2 ++ R))) ro) ?_ ?_ ⟨_, rfl, rfl, H⟩))
  · clear H
    rintro i vs S1 hlt ⟨F, rfl, hF, H⟩
    refine wp_leno H 2 rfl ?_
    rw [bls_len]
    refine wp_lss_t (by omega) ?_
    try(refine zz ?_;(repeat constructor);intro _)
    refine wp_bind ?_
    refine wp_at (es := 1) H 2 rfl (by rw [bls_len]; omega) fun id off hp => ?_
    refine wp_atL0 H 2 rfl hp (bls_get (by omega)) rfl ?_
    refine wp_not ?_
    refine wp_at (es := 1) (i := i) H 2 rfl (by rw [bls_len]; omega) fun id2 off2 hp2 => ?_
    refine wp_atS0 H 2 rfl hp2 (bls_get (by omega)) rfl rfl (by omega) (by simp) fun S3 H => ?_
    have e1 : (bls F).set i ([B F[i]].set 0 (B (!F[i]))) = bls (F.set i (!F[i])) := bls_set ..
    rw [e1] at H
    refine wp_ret ?_
    show wp EM _ _ _
    exact wp_add64 (by omega) (by omega) (wp_ret (.inl ⟨rfl, _, rfl, by simp [hF], H⟩))
  · clear H
    rintro vs S1 ⟨F, rfl, hF, H⟩
    refine wp_leno H 2 rfl ?_
    rw [bls_len]
    refine wp_lss_f (by omega) ?_
    try(refine zz ?_;(repeat constructor);intro _)
    refine wp_ret ⟨by simp, ?_⟩
    show wp EM _ _ _
    try(refine zz ?_;(repeat constructor);intro _)
    have H : Cx B0 W S1 (mOwn x s m ++ (dOwn d s m2 ++ R)) ro := (((H.dropAt 0).dropAt 0).dropAt 0).dropAt 0
    refine wp_call (wpC_mono (live_ok wf hj.2 H) fun a S1 q => ?_)
    obtain ⟨L, h1, h2, H⟩ := q
    try(refine zz ?_;(repeat constructor);intro _)
    refine wp_call (wpC_mono (rlive_ok wf (Cx.toD (X := mOwn x s m) (D := dOwn d s m2) (R := R) (P := [.sl a 4 (lvs L)]) H)) fun c S3 q => ?_)
    obtain ⟨L2, h3, h4, H⟩ := q
    obtain rfl : L2 = L := h3.uniq h1
    have H : Cx B0 W S3 (.sl c 4 (lvs L2) :: .sl a 4 (lvs L2) :: (mOwn x s m ++ (dOwn d s m2 ++ R))) ro := Cx.unD (X := mOwn x s m) (D := dOwn d s m2) (R := R) (P := [.sl a 4 (lvs L2)]) H
    try(refine zz ?_;(repeat constructor);intro _)
    refine wp_callV H (sameL_ok (H.ownSl (n := 1) rfl) (H.ownSl (n := 0) rfl) (by have := stsLen wf h4; omega)) fun S4 H => ?_
    try(refine zz ?_;(repeat constructor);intro _)
    have H : Cx B0 W S4 (mOwn x s m ++ (dOwn d s m2 ++ R)) ro := (H.dropAt 0).dropAt 0
    refine wp_call (wpC_mono (flags_ok wf H) fun f S2 H => ?_)
    try(refine zz ?_;(repeat constructor);intro _)
    refine wp_call (wpC_mono (rflags_ok wf (Cx.toD (X := mOwn x s m) (D := dOwn d s m2) (R := R) (P := [.sl f 1 (bls s.flags)]) H)) fun g S5 H => ?_)
    have H : Cx B0 W S5 (.sl g 1 (bls s.flags) :: .sl f 1 (bls s.flags) :: (mOwn x s m ++ (dOwn d s m2 ++ R))) ro := Cx.unD (X := mOwn x s m) (D := dOwn d s m2) (R := R) (P := [.sl f 1 (bls s.flags)]) H
    try(refine zz ?_;(repeat constructor);intro _)
    refine wp_callV H (sameBl_ok (H.ownSl (n := 1) rfl) (H.ownSl (n := 0) rfl) (by omega)) fun S6 H => ?_
    try(refine zz ?_;(repeat constructor);intro _)
    exact wp_ret ⟨rfl, rfl, (H.dropAt 0).dropAt 0⟩
end
end Go.Abs
namespace Go.Abs
open Go.Proofs
set_option maxRecDepth 100000
set_option linter.unusedVariables false
open Tsk (Tk tks tchk tks_get tks_len)
def ksT : List (Option IntKind) := [some .i64, some .i64, some .i64, some .i64]
theorem flatT4 : flatT EM.P 2 37 = some ksT := by kernel_rfl
theorem strT : isStructB EM.P 37 = true := by kernel_rfl
theorem grdT : EM.P.eqGuardType EM.P.depth 37 = false := by kernel_rfl
def tvs (x : Tk) : List Value := [.int .i64 x.kind, .int .i64 x.prio, .int .i64 x.every, .int .i64 x.first]
theorem tks_scs (l : List Tk) : tks l = (l.map tvs).map scs := by
  unfold Tsk.tks
  rw [List.map_map]
  rfl
theorem copyT_ok {S : AH} {v : AV} {l : List Tk} (hv : RoSl S v 4 (tks l)) (hl : l.length ≤ 100000) : wpC EM (.fn (.func 5) [] []) [v] S fun r S' => Cx S [] S' [.sl r 4 (tks l)] [] :=
  copy_ok (es := 4) (bytes := 32) (z := [I 0, I 0, I 0, I 0]) rfl rfl rfl hv (tks_all l) (by rw [Tsk.tks_len]; unfold maxBytes; omega) (by rw [Tsk.tks_len]; unfold maxLenN; omega)
theorem sameT_ok {S : AH} {v v' : AV} {l : List Tk} (hv : RoSl S v 4 (tks l)) (hv' : RoSl S v' 4 (tks l)) (hl : l.length ≤ 100000) : wpC EM (.fn (.func 8) [] []) [v, v'] S fun r S' => r = B true ∧ Grows S S' := by
  rw [tks_scs] at hv hv'
  exact sameS_ok (t := 37) (d := 2) (ks := ksT) rfl rfl hv hv' (by rw [List.length_map]; omega) rfl rfl flatT4 (by omega) strT grdT (fun vs hvs => by obtain ⟨x, _, rfl⟩ := List.mem_map.1 hvs; rfl)
def ksTo : List (Option IntKind) := [some .i64, some .u64]
theorem flatTo : flatT EM.P 2 43 = some ksTo := by kernel_rfl
theorem strTo : isStructB EM.P 43 = true := by kernel_rfl
theorem grdTo : EM.P.eqGuardType EM.P.depth 43 = false := by kernel_rfl
theorem e_told {S : AH} {n : Bool} {a b c d : Int} : evalOp EM.P (.eq 43 n (.agg [I a, U b]) (.agg [I c, U d])) S = some (B (if n then !(decide (a = c) && decide (b = d)) else (decide (a = c) && decide (b = d))), S) := by
  obtain ⟨fs, hu⟩ := isStructB_some (P := EM.P) strTo
  have h := e_eqs (M := EM) (S := S) (n := n) flatTo (by omega) hu grdTo (xs := [I a, U b]) (ys := [I c, U d]) (vx := [.int .i64 a, .int .u64 b]) (vy := [.int .i64 c, .int .u64 d]) rfl rfl rfl rfl
  have e : eqVs [Value.int .i64 a, .int .u64 b] [.int .i64 c, .int .u64 d] = (decide (a = c) && decide (b = d)) := by
    simp only [eqVs, eqV, Bool.and_true]
    congr 1
  rw [e] at h
  exact h
structure Dl where
  kind : Int
  at' : Int
  now : Int
def dls (l : List Dl) : List (List AV) := l.map fun d => [I d.kind, I d.at', I d.now]
theorem dls_len (l : List Dl) : (dls l).length = l.length := List.length_map ..
theorem dls_get {l : List Dl} {i : Nat} (h : i < l.length) : (dls l)[i]? = some [I l[i].kind, I l[i].at', I l[i].now] := by simp [dls, h]
structure Lw (s : Ms) (i : Nat) (l : List Tk) (vt vt2 : AV) (m m2 : Mv) : Prop where
  inv : InvB s
  sq : s.seq ≤ i
  T : s.T = l
  bx : m.bx.length = s.mail.length
  bx2 : m2.bx.length = s.mail.length
  vt : m.vt = vt
  vt2 : m2.vt = vt2
theorem Lw.fit {s : Ms} {i : Nat} {l : List Tk} {vt vt2 : AV} {m m2 : Mv} {ro : List Fct} (h : Lw s i l vt vt2 m m2) (hi : i ≤ 100) (hv : Fct.sl vt 4 (tks l) ∈ ro) : Fit s m ro := ⟨h.inv.wf, h.bx, h.inv.wf.j64.2, by rw [h.vt, h.T]; exact hv, by have := h.sq; omega, h.inv.room⟩
theorem Lw.fit2 {s : Ms} {i : Nat} {l : List Tk} {vt vt2 : AV} {m m2 : Mv} {ro : List Fct} (h : Lw s i l vt vt2 m m2) (hi : i ≤ 100) (hv : Fct.sl vt2 4 (tks l) ∈ ro) : Fit s m2 ro := ⟨h.inv.wf, h.bx2, h.inv.wf.j64.2, by rw [h.vt2, h.T]; exact hv, by have := h.sq; omega, h.inv.room⟩
section
variable {B0 S : AH} {W : List Nat} {own R : List Own} {ro : List Fct} {Q : Post} {k : AV → AC} {v : AV} {x d : Nat} {s : Ms} {m m2 : Mv}
theorem wp_Pick (H : Cx B0 W S own ro) {a n : Int} (hn : n ≤ 9223372036854775807) (h : ∀ S, Cx B0 W S own ro → wp EM (k (I (pick a n))) S Q) : wp EM (.call (.fn (.func 9) [] []) [I a, I n] k) S Q :=
  wp_call (wpC_mono (pick_ok rfl rfl hn) fun r S1 ⟨hr, hs⟩ => by subst hr; subst hs; exact h _ H)
theorem Cx.addCs {S1 : AH} {own1 : List Own} {ro1 : List Fct} (H : Cx B0 W S own ro) (K : Cx S [] S1 own1 ro1) : Cx B0 W S1 (own1 ++ own) ro := by
  have G := H.grow K.grows
  refine ⟨G.next, G.old, fun y hy => ?_, fun y hy => ?_, ?_, G.rh, fun φ hφ id hid => ?_⟩
  · rcases List.mem_append.1 hy with hy | hy
    · exact K.oh y hy
    · exact G.oh y hy
  · rcases List.mem_append.1 hy with hy | hy
    · intro id hid
      obtain ⟨h1, h2⟩ := K.oi y hy id hid
      refine ⟨h1, fun h3 => ?_⟩
      have := H.next
      exact absurd (h2 (by omega)) (by simp)
    · exact G.oi y hy
  · refine List.pairwise_append.2 ⟨K.od, H.od, fun a ha b hb id hid hid2 => ?_⟩
    have h1 := (H.oi b hb id hid2).1
    have h2 := (K.oi a ha id hid).2 h1
    simp at h2
  · obtain ⟨h1, h2⟩ := H.ri φ hφ id hid
    refine ⟨(G.ri φ hφ id hid).1, fun y hy => ?_⟩
    rcases List.mem_append.1 hy with hy | hy
    · intro h3
      have := (K.oi y hy id h3).2 h1
      simp at this
    · exact h2 y hy
theorem wp_doBoth {i : Nat} {l : List Tk} {vt vt2 w : AV} {dl : List Dl} {K : AV → AV → AV → AC} (h : Lw s i l vt vt2 m m2) (hi : i ≤ 100) (hil : i < dl.length) (hv : Fct.sl vt 4 (tks l) ∈ ro) (hv2 : Fct.sl vt2 4 (tks l) ∈ ro) (hw : Fct.sl w 3 (dls dl) ∈ ro) (H : Cx B0 W S (mOwn x s m ++ (dOwn d s m2 ++ R)) ro)
    (hk : ∀ S' s' m' m2' (e : Int), Lw s' (i + 1) l vt vt2 m' m2' → Cx B0 W S' (mOwn x s' m' ++ (dOwn d s' m2' ++ R)) ro → wp EM (K (B false) (I e) (I e)) S' Q) :
    wp EM (.op (.saddr 3 w (I (i : Int))) fun p => .op (.load 3 true p) fun dv => .call (.fn (.func 12) [] []) [.ptr x 0, dv] fun u => .op (.extract 0 u) fun a => .op (.extract 1 u) fun e => .op (.alloc [I 0, U 0]) fun t => .op (.store 2 t a) fun _ => .op (.saddr 3 w (I (i : Int))) fun p2 => .op (.load 3 true p2) fun dv2 => .call (.fn (.func 13) [] []) [.ptr d 0, dv2] fun u2 => .op (.extract 0 u2) fun a2 => .op (.extract 1 u2) fun e2 => .op (.alloc [I 0, U 0]) fun t2 => .op (.store 2 t2 a2) fun _ => .op (.load 2 true t) fun b1 => .op (.load 2 true t2) fun b2 => .op (.eq 43 true b1 b2) fun r => K r e e2) S Q := by
  have hg := dls_get hil
  generalize dl[i] = dd at hg
  refine wp_saddr H hw hg fun p o H => ?_
  refine wp_loada (n := 3) H (List.Mem.head _) (Nat.le_refl _) ?_
  have H := H.tl
  refine wp_call (wpC_mono (do_ok (kind := dd.kind) (at' := dd.at') (now := dd.now) (h.fit hi hv) H) fun u S1 q => ?_)
  obtain ⟨r, e, s', m', rfl, hp, hb', hv', H⟩ := q
  obtain ⟨a, b, hab⟩ := told_agg s' r e
  rw [hab]
  try(refine zz ?_;(repeat constructor);intro _)
  refine wp_alloc H fun t S2 H => ?_
  refine wp_store H 0 rfl rfl rfl (Nat.le_refl _) fun S3 H => ?_
  have H : Cx B0 W S3 (.obj t (.row [I a, U b]) :: (mOwn x s' m' ++ (dOwn d s m2 ++ R))) ro := H
  refine wp_saddr H hw hg fun p o H => ?_
  refine wp_loada (n := 3) H (List.Mem.head _) (Nat.le_refl _) ?_
  have H := H.tl
  refine wp_call (wpC_mono (rdo_ok (kind := dd.kind) (at' := dd.at') (now := dd.now) (h.fit2 hi hv2) (Cx.toD (P := [.obj t (.row [I a, U b])]) (X := mOwn x s' m') (D := dOwn d s m2) (R := R) H)) fun u S4 q => ?_)
  obtain ⟨r2, e2, s2, m2', rfl, hp2, hb2', hv2', H⟩ := q
  obtain ⟨rfl, rfl, rfl⟩ := DoR.det h.inv.wf h.inv.room hp hp2
  rw [hab]
  try(refine zz ?_;(repeat constructor);intro _)
  refine wp_alloc H fun t2 S5 H => ?_
  refine wp_store H 0 rfl rfl rfl (Nat.le_refl _) fun S6 H => ?_
  have H : Cx B0 W S6 (.obj t2 (.row [I a, U b]) :: .obj t (.row [I a, U b]) :: (mOwn x s' m' ++ (dOwn d s' m2' ++ R))) ro := Cx.unD (r := .obj t2 (.row [I a, U b])) (P := [.obj t (.row [I a, U b])]) (X := mOwn x s' m') (D := dOwn d s' m2') (R := R) H
  refine wp_loadoa (n := 2) H 1 rfl (Nat.le_refl _) ?_
  refine wp_loadoa (n := 2) H 0 rfl (Nat.le_refl _) ?_
  refine wp_op e_told ?_
  have ee : (if true = true then !(decide (a = a) && decide (b = b)) else (decide (a = a) && decide (b = b))) = false := by simp
  rw [ee]
  have ht := DoR.told (h.fit (ro := ro) hi hv) hp
  obtain ⟨t1, t2, t3, t4, t5, t6⟩ := ht
  refine hk S6 s' m' m2' e ⟨DoR.inv h.inv (by have := h.sq; omega) hp, by have := h.sq; omega, by rw [t4]; exact h.T, hb', hb2', by rw [hv']; exact h.vt, by rw [hv2']; exact h.vt2⟩ ((H.dropAt 0).dropAt 0)
end
end Go.Abs
namespace Go.Abs
open Go.Proofs
set_option maxRecDepth 100000
set_option linter.unusedVariables false
open Tsk (Tk tks tchk tks_get tks_len)
section
variable {B0 S : AH} {W : List Nat} {own R : List Own} {ro : List Fct} {Q : Post} {k : AV → AC} {v : AV} {x d : Nat} {s : Ms} {m m2 : Mv}
theorem e_nilNil {t : Nat} {n : Bool} (ht : typc EM.P t = 1) : evalOp EM.P (.eq t n Np Np) S = some (B (!n), S) := by
  show pur (pEq EM.P t n Np Np) S = _
  have : aeq EM.P t Np Np = some true := by
    unfold aeq
    rw [ht]
    rfl
  unfold pEq
  rw [this]
  cases n <;> rfl
set_option maxHeartbeats 4000000 in
theorem modelPlays_ok {S : AH} {su : Su} {v w : AV} {l : List Tk} {dl : List Dl} {a : Int} (hj : -9223372036854775808 ≤ su.jobs) (hv : RoSl S v 4 (tks l)) (hw : RoSl S w 3 (dls dl)) : wpC EM (.fn (.func 3) [] []) [.agg (su.cs v), w, I a] S fun u _ => u = B true := by
  refine wpC_fn (b := Tryz.a3) rfl rfl ?_
  have H : Cx S [] S [] [.sl v 4 (tks l), .sl w 3 (dls dl)] := Cx.ro2 hv hw
  unfold Tryz.a3 Tryz.a3x25 Tryz.a3x24 Tryz.a3x23 Tryz.a3x22 Tryz.a3x21 Tryz.a3x20 Tryz.a3x19 Tryz.a3x18 Tryz.a3x17 Tryz.a3x16 Tryz.a3x15 Tryz.a3x14 Tryz.a3x13 Tryz.a3x12 Tryz.a3x11 Tryz.a3x10 Tryz.a3x9 Tryz.a3x8 Tryz.a3x7 Tryz.a3x6 Tryz.a3x5 Tryz.a3x4 Tryz.a3x3 Tryz.a3x2 Tryz.a3x1 Tryz.a3x0
  have aw : ∀ S, wp EM (.call (.fn (.func 4) [] []) [] fun v7 => .ret .ret [v7]) S fun t vs S' => t = .ret ∧ oneOf vs = B true := fun S => wp_call (wpC_kn (v := B true) rfl (wp_ret ⟨rfl, rfl⟩))
  refine wp_box H rfl fun p S1 H => ?_
  have H : Cx S [] S1 [] [.pt p 0 (su.cs v), .sl v 4 (tks l), .sl w 3 (dls dl)] := H
  try(refine zz ?_;(repeat constructor);intro _)
  refine wp_ld H (o := 6) (cs := su.cs v) (by repeat (first | exact List.Mem.head _ | apply List.Mem.tail)) rfl ?_
  refine wp_len H (v := v) (es := 4) (L := tks l) (by repeat (first | exact List.Mem.head _ | apply List.Mem.tail)) ?_
  rw [tks_len]
  refine wp_gtr (fun hbig => ?_) (fun hsm => ?_)
  · try(refine zz ?_;(repeat constructor);intro _)
    exact aw _
  try(refine zz ?_;(repeat constructor);intro _)
  refine wp_len H (v := w) (es := 3) (L := dls dl) (by repeat (first | exact List.Mem.head _ | apply List.Mem.tail)) ?_
  rw [dls_len]
  try(refine zz ?_;(repeat constructor);intro _)
  refine wp_gtr (fun hbig => ?_) (fun hsm2 => ?_)
  · try(refine zz ?_;(repeat constructor);intro _)
    exact aw _
  have hl40 : l.length ≤ 40 := by omega
  have hd80 : dl.length ≤ 80 := by omega
  try(refine zz ?_;(repeat constructor);intro _)
  refine wp_ldn H (o := 0) (n := 7) (cs := su.cs v) (by repeat (first | exact List.Mem.head _ | apply List.Mem.tail)) rfl ?_
  refine wp_alloc H fun q S2 H => ?_
  refine wp_store (n := 7) H 0 rfl rfl rfl (Nat.le_refl _) fun S3 H => ?_
  have H : Cx S [] S3 [.obj q (.row (su.cs v))] [.pt p 0 (su.cs v), .sl v 4 (tks l), .sl w 3 (dls dl)] := H
  try(refine zz ?_;(repeat constructor);intro _)
  refine wp_ld H (o := 6) (cs := su.cs v) (by repeat (first | exact List.Mem.head _ | apply List.Mem.tail)) rfl ?_
  refine wp_callN H (copyT_ok (l := l) (H.roSl (by repeat (first | exact List.Mem.head _ | apply List.Mem.tail))) (by omega)) fun c S4 H => ?_
  have hc0 : slOk S4 c 4 (tks l) := ownSl_ok (H.oh _ (List.Mem.head _))
  try(refine zz ?_;(repeat constructor);intro _)
  refine wp_set1 (j := 6) H 1 rfl (by simp [Su.cs]) (slOk_odd1 hc0).1 (slOk_odd1 hc0).2 fun S5 H => ?_
  have H : Cx S [] S5 [.sl c 4 (tks l), .obj q (.row (su.cs c))] [.pt p 0 (su.cs v), .sl v 4 (tks l), .sl w 3 (dls dl)] := H
  refine wp_loadoa (n := 7) H 1 rfl (Nat.le_refl _) ?_
  show wp EM (.call _ [.agg (su.cs c)] _) _ _
  refine wp_call (wpC_mono (new2_ok (su := su) (l := l) hj (List.Mem.head _) (Cx.ro1 (H.ownSl (n := 0) rfl))) fun r S6 z => ?_)
  rcases z with ⟨hne, rfl, K⟩ | ⟨he, x, m, rfl, hb, K⟩
  · have H := H.addCs K
    try(refine zz ?_;(repeat constructor);intro _)
    refine wp_ldn H (o := 0) (n := 7) (cs := su.cs v) (by repeat (first | exact List.Mem.head _ | apply List.Mem.tail)) rfl ?_
    refine wp_call (wpC_mono (rnew_ok (su := su) (l := l) hl40 (v := v) (by repeat (first | exact List.Mem.head _ | apply List.Mem.tail)) H) fun r2 S7 z => ?_)
    rcases z with ⟨_, rfl, H⟩ | ⟨he, _⟩
    rotate_left
    · exact absurd he hne
    try(refine zz ?_;(repeat constructor);intro _)
    refine wp_neq_f rfl ?_
    try(refine zz ?_;(repeat constructor);intro _)
    refine wp_op (e_nilNil (by kernel_rfl)) ?_
    try(refine zz ?_;(repeat constructor);intro _)
    refine wp_op (e_nilNil (by kernel_rfl)) ?_
    try(refine zz ?_;(repeat constructor);intro _)
    refine wp_op (e_eqb undB) ?_
    have e : ∀ b : Bool, (if true = true then !(b == b) else (b == b)) = false := by intro b; simp
    rw [e (!false)]
    try(refine zz ?_;(repeat constructor);intro _)
    refine wp_loado H 1 rfl rfl ?_
    try(refine zz ?_;(repeat constructor);intro _)
    refine wp_ld H (o := 6) (cs := su.cs v) (by repeat (first | exact List.Mem.head _ | apply List.Mem.tail)) rfl ?_
    try(refine zz ?_;(repeat constructor);intro _)
    refine wp_callV H (sameT_ok (l := l) (H.ownSl (n := 0) rfl) (H.roSl (by repeat (first | exact List.Mem.head _ | apply List.Mem.tail))) (by omega)) fun S8 H => ?_
    try(refine zz ?_;(repeat constructor);intro _)
    refine wp_notT ?_
    try(refine zz ?_;(repeat constructor);intro _)
    refine wp_op (e_nilNil (by kernel_rfl)) ?_
    try(refine zz ?_;(repeat constructor);intro _)
    exact aw _
  · have H := H.addCs K
    try(refine zz ?_;(repeat constructor);intro _)
    refine wp_ldn H (o := 0) (n := 7) (cs := su.cs v) (by repeat (first | exact List.Mem.head _ | apply List.Mem.tail)) rfl ?_
    refine wp_call (wpC_mono (rnew_ok (su := su) (l := l) hl40 (v := v) (by repeat (first | exact List.Mem.head _ | apply List.Mem.tail)) H) fun r2 S7 z => ?_)
    rcases z with ⟨hne, _⟩ | ⟨_, d, m2, rfl, hb2, H⟩
    · exact absurd he hne
    have hperm : ∀ (X D : List Own) (a b : Own) (Z : List Own), (D ++ (b :: ((X ++ [a]) ++ Z))).Perm (b :: a :: (Z ++ (X ++ (D ++ [])))) := by
      intro X D a b Z
      rw [List.append_nil, List.append_assoc]
      refine List.Perm.trans List.perm_middle (List.Perm.cons _ ?_)
      show List.Perm (D ++ (X ++ (a :: Z))) _
      rw [← List.append_assoc]
      refine List.Perm.trans List.perm_middle (List.Perm.cons _ ?_)
      exact List.Perm.trans List.perm_append_comm (List.Perm.append_left Z List.perm_append_comm)
    have H := H.perm (hperm (mOwn x (Ms.init su l) m) (dOwn d (Ms.init su l) m2) (.sl m.vt 4 (tks l)) (.sl m2.vt 4 (tks l)) [.sl c 4 (tks l), .obj q (.row (su.cs c))])
    have H := (H.freezeSl (i := 0) rfl).freezeSl (i := 0) rfl
    have H : Cx S [] S7 (.sl c 4 (tks l) :: .obj q (.row (su.cs c)) :: (mOwn x (Ms.init su l) m ++ (dOwn d (Ms.init su l) m2 ++ []))) [.sl m.vt 4 (tks l), .sl m2.vt 4 (tks l), .pt p 0 (su.cs v), .sl v 4 (tks l), .sl w 3 (dls dl)] := H
    try(refine zz ?_;(repeat constructor);intro _)
    refine wp_neq_f rfl ?_
    try(refine zz ?_;(repeat constructor);intro _)
    refine wp_op (e_ptrNil (by kernel_rfl)) ?_
    try(refine zz ?_;(repeat constructor);intro _)
    refine wp_op (e_ptrNil (by kernel_rfl)) ?_
    try(refine zz ?_;(repeat constructor);intro _)
    refine wp_op (e_eqb undB) ?_
    have e : ∀ b : Bool, (if true = true then !(b == b) else (b == b)) = false := by intro b; simp
    rw [e false]
    try(refine zz ?_;(repeat constructor);intro _)
    refine wp_loado H 1 rfl rfl ?_
    try(refine zz ?_;(repeat constructor);intro _)
    refine wp_ld H (o := 6) (cs := su.cs v) (by repeat (first | exact List.Mem.head _ | apply List.Mem.tail)) rfl ?_
    try(refine zz ?_;(repeat constructor);intro _)
    refine wp_callV H (sameT_ok (l := l) (H.ownSl (n := 0) rfl) (H.roSl (by repeat (first | exact List.Mem.head _ | apply List.Mem.tail))) (by omega)) fun S8 H => ?_
    try(refine zz ?_;(repeat constructor);intro _)
    refine wp_notT ?_
    try(refine zz ?_;(repeat constructor);intro _)
    refine wp_op (e_ptrNil (by kernel_rfl)) ?_
    try(refine zz ?_;(repeat constructor);intro _)
    refine wp_bind (wp_loop (wpL_for l.length (fun i vs S1 => ∃ L' : List (List AV), vs = [I (i : Int)] ∧ L'.length = l.length ∧ (∀ y ∈ L', y.length = 4) ∧ Cx S [] S1 (.sl c 4 L' :: .obj q (.row (su.cs c)) :: (mOwn x (Ms.init su l) m ++ (dOwn d (Ms.init su l) m2 ++ []))) [.sl m.vt 4 (tks l), .sl m2.vt 4 (tks l), .pt p 0 (su.cs v), .sl v 4 (tks l), .sl w 3 (dls dl)]) ?_ ?_ ⟨_, rfl, tks_len l, tks_all l, H⟩))
    · clear H
      rintro i vs S1 hlt ⟨L', rfl, hL, hL4, H⟩
      try(refine zz ?_;(repeat constructor);intro _)
      refine wp_loado H 1 rfl rfl ?_
      refine wp_leno H 0 rfl ?_
      rw [hL]
      refine wp_lss_t (by omega) ?_
      try(refine zz ?_;(repeat constructor);intro _)
      refine wp_bind ?_
      try(refine zz ?_;(repeat constructor);intro _)
      refine wp_loado H 1 rfl rfl ?_
      refine wp_op (v := .agg [I (-77), I 0, I 0, I 0]) rfl ?_
      have hx : L'[i]? = some (L'[i]'(by omega)) := List.getElem?_eq_getElem _
      refine wp_at (es := 4) (i := i) H 0 rfl (by omega) fun id off hp => ?_
      refine wp_atSn H 0 rfl hp hx rfl rfl fun S3 H => ?_
      refine wp_ret ?_
      show wp EM _ _ _
      refine wp_add64 (by omega) (by omega) (wp_ret (.inl ⟨rfl, _, rfl, ?_, ?_, H⟩))
      · rw [List.length_set]; exact hL
      · intro y hy
        rcases List.mem_or_eq_of_mem_set hy with h | h
        · exact hL4 y h
        · rw [h]; rfl
    · clear H
      rintro vs S1 ⟨L', rfl, hL, hL4, H⟩
      try(refine zz ?_;(repeat constructor);intro _)
      refine wp_loado H 1 rfl rfl ?_
      refine wp_leno H 0 rfl ?_
      rw [hL]
      refine wp_lss_f (by omega) ?_
      try(refine zz ?_;(repeat constructor);intro _)
      refine wp_ret ⟨by simp, ?_⟩
      show wp EM _ _ _
      have H : Cx S [] S1 (mOwn x (Ms.init su l) m ++ (dOwn d (Ms.init su l) m2 ++ [])) [.sl m.vt 4 (tks l), .sl m2.vt 4 (tks l), .pt p 0 (su.cs v), .sl v 4 (tks l), .sl w 3 (dls dl)] := (H.dropAt 0).dropAt 0
      generalize hvt : m.vt = vt at H
      generalize hvt2 : m2.vt = vt2 at H
      have L0 : Lw (Ms.init su l) 0 l vt vt2 m m2 := ⟨InvB.init he, Int.le_refl _, rfl, hb, hb2, hvt, hvt2⟩
      clear hvt hvt2
      have hva : ∀ {φ : Fct}, φ ∈ [Fct.sl vt 4 (tks l), .sl vt2 4 (tks l), .pt p 0 (su.cs v), .sl v 4 (tks l), .sl w 3 (dls dl)] → φ ∈ [Fct.sl vt 4 (tks l), .sl vt2 4 (tks l), .pt p 0 (su.cs v), .sl v 4 (tks l), .sl w 3 (dls dl)] := fun h => h
      generalize hro : [Fct.sl vt 4 (tks l), .sl vt2 4 (tks l), .pt p 0 (su.cs v), .sl v 4 (tks l), .sl w 3 (dls dl)] = ro at H
      have r1 : Fct.sl vt 4 (tks l) ∈ ro := by rw [← hro]; repeat (first | exact List.Mem.head _ | apply List.Mem.tail)
      have r2 : Fct.sl vt2 4 (tks l) ∈ ro := by rw [← hro]; repeat (first | exact List.Mem.head _ | apply List.Mem.tail)
      have r3 : Fct.sl w 3 (dls dl) ∈ ro := by rw [← hro]; repeat (first | exact List.Mem.head _ | apply List.Mem.tail)
      clear hva hro
      refine wp_bind (wp_loop (wpL_for dl.length (fun i vs S1 => ∃ (u : AV) (s : Ms) (m m2 : Mv), vs = [I (i : Int), u] ∧ Lw s i l vt vt2 m m2 ∧ Cx S [] S1 (mOwn x s m ++ (dOwn d s m2 ++ [])) ro) ?_ ?_ ⟨_, _, m, m2, rfl, L0, H⟩))
      · clear H L0
        rintro i vs S1 hlt ⟨u, s, m, m2, rfl, hL, H⟩
        have wf := hL.inv.wf
        refine wp_len H (v := w) (es := 3) (L := dls dl) r3 ?_
        rw [dls_len]
        refine wp_lss_t (by omega) ?_
        try(refine zz ?_;(repeat constructor);intro _)
        refine wp_bind ?_
        refine wp_len H (v := w) (es := 3) (L := dls dl) r3 ?_
        rw [dls_len]
        refine wp_Pick H (by omega) fun S2 H => ?_
        have main : ∀ {S3 : AH} {Q2 : Post} {u2 : AV}, Cx S [] S3 (mOwn x s m ++ (dOwn d s m2 ++ [])) ro → (∀ S4 s' m' m2', Lw s' (i + 1) l vt vt2 m' m2' → Cx S [] S4 (mOwn x s' m' ++ (dOwn d s' m2' ++ [])) ro → Q2 .normal [u2] S4) → wp EM (Tryz.a3x14 [.agg (su.cs v), w, I a] (.ptr x 0) (.ptr d 0) [I (i : Int), u] [u2]) S3 Q2 := by
          clear H
          intro S3 Q2 u2 H hq
          unfold Tryz.a3x14 Tryz.a3x13 Tryz.a3x12 Tryz.a3x11 Tryz.a3x10
          refine wp_doBoth hL (by omega) hlt r1 r2 r3 H fun S4 s' m' m2' e hL' H => ?_
          try(refine zz ?_;(repeat constructor);intro _)
          refine wp_neq_f rfl ?_
          try(refine zz ?_;(repeat constructor);intro _)
          refine wp_call (wpC_mono (stands_ok hL'.inv.wf hL'.bx hL'.bx2 H) fun r S5 z => ?_)
          obtain ⟨rfl, H⟩ := z
          try(refine zz ?_;(repeat constructor);intro _)
          refine wp_notT ?_
          try(refine zz ?_;(repeat constructor);intro _)
          exact wp_ret (hq S5 s' m' m2' hL' H)
        refine wp_eql (fun hpk => ?_) (fun hpk => ?_)
        · refine wp_bind (wp_ite_t ?_)
          refine wp_call (wpC_mono (copy_ok' wf hL.bx (by rw [hL.vt, hL.T]; exact r1) H) fun r S3 z => ?_)
          obtain ⟨y, my, rfl, k1, k2, H⟩ := z
          refine wp_call (wpC_mono (rcopy_ok wf hL.bx2 (Cx.toD (P := mOwn y s my) (X := mOwn x s m) (D := dOwn d s m2) (R := []) H)) fun r S4 z => ?_)
          obtain ⟨z, mz, rfl, k3, k4, H⟩ := z
          have hL2 : Lw s i l vt vt2 my mz := ⟨hL.inv, hL.sq, hL.T, k1, k3, by rw [k2]; exact hL.vt, by rw [k4]; exact hL.vt2⟩
          have H := Cx.toD (P := dOwn z s mz) (X := dOwn d s m2) (D := mOwn y s my) (R := mOwn x s m ++ []) H
          refine wp_doBoth hL2 (by omega) hlt r1 r2 r3 H fun S5 s' m' m2' e hL' H => ?_
          try(refine zz ?_;(repeat constructor);intro _)
          refine wp_neq_f rfl ?_
          try(refine zz ?_;(repeat constructor);intro _)
          refine wp_call (wpC_mono (stands_ok hL'.inv.wf hL'.bx hL'.bx2 H) fun r S6 q => ?_)
          obtain ⟨rfl, H⟩ := q
          try(refine zz ?_;(repeat constructor);intro _)
          refine wp_notT ?_
          try(refine zz ?_;(repeat constructor);intro _)
          have H : Cx S [] S6 (dOwn d s m2 ++ (mOwn x s m ++ [])) ro := H.dropOwn (List.Sublist.trans (List.sublist_append_right _ _) (List.sublist_append_right _ _))
          have H : Cx S [] S6 (mOwn x s m ++ (dOwn d s m2 ++ [])) ro := Cx.toF (P := dOwn d s m2) (l := mOwn x s m) (R := []) H
          refine wp_call (wpC_mono (stands_ok wf hL.bx hL.bx2 H) fun r S7 q => ?_)
          obtain ⟨rfl, H⟩ := q
          try(refine zz ?_;(repeat constructor);intro _)
          refine wp_notT ?_
          try(refine zz ?_;(repeat constructor);intro _)
          refine wp_ret ?_
          refine main H fun S8 s' m' m2' hL' H => ?_
          show wp EM _ _ _
          exact wp_add64 (by omega) (by omega) (wp_ret (.inl ⟨rfl, _, s', m', m2', rfl, hL', H⟩))
        · refine wp_bind (wp_ite_f (wp_ret ?_))
          refine main H fun S8 s' m' m2' hL' H => ?_
          show wp EM _ _ _
          exact wp_add64 (by omega) (by omega) (wp_ret (.inl ⟨rfl, _, s', m', m2', rfl, hL', H⟩))
      · clear H L0
        rintro vs S1 ⟨u, s, m, m2, rfl, hL, H⟩
        refine wp_len H (v := w) (es := 3) (L := dls dl) r3 ?_
        rw [dls_len]
        refine wp_lss_f (by omega) ?_
        try(refine zz ?_;(repeat constructor);intro _)
        refine wp_ret ⟨by simp, ?_⟩
        show wp EM _ _ _
        exact aw _
end
end Go.Abs
