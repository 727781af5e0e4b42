/- functions of this cut: what they compute, in the abstract machine. Conditions: stated in each theorem -/
import Derived.Test.YtegdfgoanklohaaE1
set_option linter.unusedVariables false
set_option linter.unusedSimpArgs false
namespace Go.Abs
open Go.Proofs
set_option maxRecDepth 100000
set_option linter.unusedVariables false
open Tsk (Tk tks tchk)
section
variable {M : Mach} {B0 S : AH} {W : List Nat} {own R : List Own} {ro : List Fct} {Q : Post} {k : AV → AC} {v : AV} {x : Nat} {s : Ms} {m : Mv} {id off n cap es : Nat}
theorem bndO_at {i d n : Nat} (h : i ≤ n) : bndO (some (I (i : Int))) d n = some i := by
  show below i (Nat.succ n) = some i
  unfold below; rw [ble_t (by omega)]
theorem bnds_of {lo hi mx : Option AV} {len cap l h m : Nat} (h1 : bndO mx cap cap = some m) (h2 : bndO hi len m = some h) (h3 : bndO lo 0 h = some l) (h4 : (mx.isSome && hi.isNone) = false) : bnds lo hi mx len cap = some (l, h, m) := by
  unfold bnds
  rw [h1]; simp only; rw [h2]; simp only; rw [h3]; simp only; rw [h4]; rfl
theorem e_ss_sl {lo hi mx : Option AV} {l h m : Nat} (hb : bnds lo hi mx n cap = some (l, h, m)) : evalOp M.P (.sslice es (.sl id off n cap) lo hi mx) S = some (.sl id (if Nat.beq m l then off else Nat.add off (Nat.mul l es)) (h - l) (m - l), S) := by
  show pur (pSslice es (.sl id off n cap) lo hi mx) S = _
  unfold pSslice
  simp only [hb]; rfl
theorem e_ss_op {lo hi : Option AV} {l h m : Nat} (hb : bnds lo hi none n cap = some (l, h, m)) : evalOp M.P (.sslice es (.op id off n cap es) lo hi none) S = some (.op id (Nat.add off (Nat.mul l es)) (h - l) (cap - l) es, S) := by
  show pur (pSslice es (.op id off n cap es) lo hi none) S = _
  unfold pSslice
  simp only [hb, Nat.beq_refl]; rfl
theorem e_ss_opm {lo hi : Option AV} {mx : AV} {l h m : Nat} (hb : bnds lo hi (some mx) n cap = some (l, h, m)) : ∃ t, evalOp M.P (.sslice es (.op id off n cap es) lo hi (some mx)) S = some (t, S) := by
  have : ∃ t, pSslice es (.op id off n cap es) lo hi (some mx) = some t := by
    unfold pSslice
    simp only [hb, Nat.beq_refl]
    cases Nat.beq cap 0 with
    | true => exact ⟨_, rfl⟩
    | false => exact ⟨_, rfl⟩
  obtain ⟨t, ht⟩ := this
  refine ⟨t, ?_⟩
  show pur (pSslice es (.op id off n cap es) lo hi (some mx)) S = _
  rw [ht]; rfl
theorem e_clr {zero : List AV} {c : List AV} (hg : S.get id = some (.row c)) (h1 : off + n * es ≤ c.length) (h2 : zero.length = es) {t : AV} (ht : t = .sl id off n cap ∨ t = .op id off n cap es) :
    evalOp M.P (.clear es zero t) S = some (uv, S.set id (.row (setRange c off (repZero zero n)))) := by
  have hq : (Nat.ble (off + n * es) (lenL c) && Nat.beq (lenL zero) es) = true := by rw [lenL_eq, lenL_eq, ble_t h1, h2, Nat.beq_refl]; rfl
  rcases ht with rfl | rfl
  · show (match S.get id with | some (.row c) => if Nat.ble (off + n * es) (lenL c) && Nat.beq (lenL zero) es then some (uv, S.set id (.row (setRange c off (repZero zero n)))) else none | some (.ro _) => if Nat.beq n 0 then some (uv, S) else none | _ => none) = _
    rw [hg]; simp only [hq, if_true]
  · show (match S.get id with | some (.row c) => if Nat.ble (off + n * es) (lenL c) && Nat.beq (lenL zero) es then some (uv, S.set id (.row (setRange c off (repZero zero n)))) else none | some (.ro _) => if Nat.beq n 0 then some (uv, S) else none | _ => none) = _
    rw [hg]; simp only [hq, if_true]
theorem e_appSl {x : AV} {bytes k : Nat} {c news : List AV} (hx : elems S es x = some (k, news)) (hg : S.get id = some (.row c)) (h1 : off + cap * es ≤ c.length) (h2 : n + k ≤ cap) :
    evalOp M.P (.append es bytes (.sl id off n cap) x) S = some (.sl id off (n + k) cap, S.set id (.row (setRange c (off + n * es) news))) := by
  show eAppend es bytes (.sl id off n cap) x S = _
  unfold eAppend
  rw [hx]
  simp only [hg]
  have hq : (Nat.ble (off + cap * es) (lenL c) && Nat.ble n cap) = true := by rw [lenL_eq, ble_t h1, ble_t (by omega)]; rfl
  rw [if_pos hq, if_pos (ble_t h2)]
theorem e_appOp {x : AV} {bytes k : Nat} {c news : List AV} (hx : elems S es x = some (k, news)) (hg : S.get id = some (.row c)) (h1 : off + cap * es ≤ c.length) (h2 : n + k ≤ cap) :
    evalOp M.P (.append es bytes (.op id off n cap es) x) S = some (.op id off (n + k) cap es, S.set id (.row (setRange c (off + n * es) news))) := by
  show eAppend es bytes (.op id off n cap es) x S = _
  unfold eAppend
  rw [hx]
  simp only [hg]
  have hq : (Nat.beq es es && Nat.ble (off + cap * es) (lenL c) && Nat.ble n cap) = true := by rw [lenL_eq, ble_t h1, ble_t (by omega), Nat.beq_refl]; rfl
  rw [if_pos hq, if_pos (ble_t h2)]
theorem ints_flat (l : List Int) : (ints l).flatten = l.map I := by
  induction l with
  | nil => rfl
  | cons a l ih => show [I a] ++ (ints l).flatten = _; rw [ih]; rfl
/-- the first one is taken out -/
theorem del0_ok {a : Int} {r : List Int} (H : Cx B0 W S own ro) (n : Nat) (hm : own[n]? = some (.sl v 1 (ints (a :: r)))) :
    wpC EM (.fn (.func 69) [] []) [v, I 0, I 1] S fun u S' => Cx B0 W S' (own.set n (.sl u 1 (ints r))) ro := by
  refine wpC_fn (b := Try.a69) rfl rfl ?_
  unfold Try.a69 Try.a69x0
  have hw : slW S v 1 (ints (a :: r)) := H.oh _ (List.mem_of_getElem? hm)
  rcases hw with ⟨_, h⟩ | ⟨id, off, c, h0, h1, h2, h3⟩
  · simp [ints] at h
  have hlen : (ints (a :: r)).length = r.length + 1 := by rw [ints_len]; rfl
  rw [hlen] at h0 h2
  refine wp_leno H n hm ?_
  rw [hlen]
  have hcell : S.cells? id = some c := row_cells h1
  have hnews : ((c.drop (off + 1)).take r.length) = r.map I := by
    have e := congrArg (List.drop 1) h2
    rw [ints_flat, List.drop_take, List.drop_drop] at e
    simpa using e
  -- how it ends
  have fin : ∀ (mk : Nat → AV) (cap : Nat), (∀ n c', n ≤ cap → off + cap ≤ c'.length → slForm (mk n) 1 n id off c') → v = mk (r.length + 1) → r.length + 1 ≤ cap → off + cap ≤ c.length → ∀ S', S' = (S.set id (.row (setRange c off (r.map I)))).set id (.row (setRange (setRange c off (r.map I)) (off + r.length) [I 0])) → Cx B0 W S' (own.set n (.sl (mk r.length) 1 (ints r))) ro := by
    intro mk cap hmk hv hc1 hc2 S' hS
    have l1 : (setRange c off (r.map I)).length = c.length := setRange_length (by simp; omega)
    have l2 : (setRange (setRange c off (r.map I)) (off + r.length) [I 0]).length = c.length := by rw [setRange_length (by simp; omega), l1]
    subst hS
    have hids : vids v = [id] := by rw [hv, (hmk (r.length + 1) c hc1 hc2).ids]
    refine H.step hm (by simp [AH.set]) ?_ ?_ ?_
    · intro j hj hne
      have hne : j ≠ id := by rw [show (Own.sl v 1 (ints (a :: r))).ids = vids v from rfl, hids] at hne; simpa using hne
      rw [AH.get_set, if_neg hne, AH.get_set, if_neg hne]
    · refine .inr ⟨id, off, _, ?_, by rw [AH.get_set, if_pos rfl], ?_, ?_⟩
      · rw [ints_len]; exact hmk _ _ (by omega) (by omega)
      · rw [ints_len, ints_flat]
        apply List.ext_getElem?
        intro j
        rw [List.getElem?_take, List.getElem?_drop]
        by_cases hj : j < r.length * 1
        · rw [if_pos hj, setRange_get (by simp; omega), if_neg (by simp; omega), setRange_get (by simp; omega), if_pos (by simp; omega)]
          congr 1; omega
        · rw [if_neg hj, List.getElem?_eq_none (by simp; omega)]
      · intro y hy
        obtain ⟨b, _, rfl⟩ := List.mem_map.1 hy
        rfl
    · intro j hj
      have hj' : j = id := by
        have : j ∈ vids (mk r.length) := hj
        rw [(hmk r.length c (by omega) hc2).ids] at this
        simpa using this
      subst hj'
      have hmem : j ∈ (Own.sl v 1 (ints (a :: r))).ids := by show j ∈ vids v; rw [hids]; simp
      refine ⟨?_, .inl hmem⟩
      have := (H.oi _ (List.mem_of_getElem? hm) j hmem).1
      exact this
  rcases h0 with ⟨cap, q1, q2, rfl⟩ | ⟨cap, q1, q2, rfl⟩
  · refine wp_op (e_ss_sl (bnds_of (m := r.length + 1) (h := 1) (l := 0) (bndO_at (i := r.length + 1) q1) (bndO_at (i := 1) (by omega)) (bndO_at (i := 0) (by omega)) rfl)) ?_
    refine wp_eql_f (by omega) ?_
    repeat (first|refine zA ?_|refine zB rfl ?_|refine zC ?_|refine zD ?_|refine zE rfl ?_|refine zF ?_|refine zG ?_|refine zH ?_|refine zI ?_|refine zJ ?_|refine zK ?_|refine zL rfl ?_|refine zN rfl ?_)
    refine wp_leno H n hm ?_
    rw [hlen]
    refine wp_op (e_ss_sl (bnds_of (m := cap) (h := 0) (l := 0) rfl (bndO_at (i := 0) (by omega)) rfl rfl)) ?_
    refine wp_op (e_ss_sl (bnds_of (m := cap) (h := r.length + 1) (l := 1) rfl rfl (bndO_at (i := 1) (by omega)) rfl)) ?_
    have e1 : (if Nat.beq cap 0 = true then off else Nat.add off (Nat.mul 0 1)) = off := by split <;> simp
    have e2 : elems S 1 (.sl id (if Nat.beq cap 1 = true then off else Nat.add off (Nat.mul 1 1)) (r.length + 1 - 1) (cap - 1)) = some (r.length, r.map I) := by
      show (match S.cells? id with | some c => if Nat.ble ((if Nat.beq cap 1 = true then off else Nat.add off (Nat.mul 1 1)) + (r.length + 1 - 1) * 1) (lenL c) then some (r.length + 1 - 1, takeL ((r.length + 1 - 1) * 1) (dropL (if Nat.beq cap 1 = true then off else Nat.add off (Nat.mul 1 1)) c)) else none | none => none) = _
      simp only [hcell]
      by_cases hc : Nat.beq cap 1 = true
      · rw [if_pos hc]
        have hc := Nat.eq_of_beq_eq_true hc
        have hr : r = [] := List.eq_nil_of_length_eq_zero (by omega)
        subst hr
        have hbl : Nat.ble (off + (([] : List Int).length + 1 - 1) * 1) (lenL c) = true := by rw [lenL_eq]; exact ble_t (by simp; omega)
        rw [if_pos hbl]
        simp [takeL_eq]
      · rw [if_neg hc]
        have hbl : Nat.ble (Nat.add off (Nat.mul 1 1) + (r.length + 1 - 1) * 1) (lenL c) = true := by rw [lenL_eq]; exact ble_t (by show off + 1 * 1 + (r.length + 1 - 1) * 1 ≤ _; omega)
        rw [if_pos hbl, takeL_eq, dropL_eq]
        have e3 : (r.length + 1 - 1) * 1 = r.length := by omega
        rw [e3]
        show some (r.length + 1 - 1, (c.drop (off + 1 * 1)).take r.length) = _
        rw [show off + 1 * 1 = off + 1 by omega, hnews]
        rfl
    rw [e1]
    refine wp_op (e_appSl e2 h1 (by omega) (by omega)) ?_
    have e4 : off + (0 - 0) * 1 = off := by omega
    rw [e4]
    refine wp_op (v := I (r.length : Int)) (S1 := S.set id (.row (setRange c off (r.map I)))) (by show pur (some (I ((0 - 0 + r.length : Nat) : Int))) _ = _; rw [show 0 - 0 + r.length = r.length by omega]; rfl) ?_
    have e5 : 0 - 0 + r.length = r.length := by omega
    have e6 : cap - 0 = cap := by omega
    rw [e5, e6]
    refine wp_op (e_ss_sl (bnds_of (m := cap) (h := r.length + 1) (l := r.length) rfl (bndO_at (i := r.length + 1) q1) (bndO_at (i := r.length) (by omega)) rfl)) ?_
    have e7 : (if Nat.beq cap r.length = true then off else Nat.add off (Nat.mul r.length 1)) = off + r.length := by
      rw [if_neg]
      · show off + r.length * 1 = _; omega
      · intro h; have := Nat.eq_of_beq_eq_true h; omega
    rw [e7]
    have l1 : (setRange c off (r.map I)).length = c.length := setRange_length (by simp; omega)
    refine wp_op (e_clr (S := S.set id (.row (setRange c off (r.map I)))) (es := 1) (off := off + r.length) (id := id) (c := setRange c off (r.map I)) (n := r.length + 1 - r.length) (cap := cap - r.length) (by rw [AH.get_set, if_pos rfl]) (by rw [l1]; omega) rfl (.inl rfl)) ?_
    refine wp_ret ⟨rfl, ?_⟩
    have e8 : repZero [I 0] (r.length + 1 - r.length) = [I 0] := by rw [show r.length + 1 - r.length = 1 by omega]; rfl
    rw [e8]
    exact fin (fun n => .sl id off n cap) cap (fun n c' h h' => .inl ⟨cap, h, by omega, rfl⟩) rfl q1 (by omega) _ rfl
  · obtain ⟨t, ht⟩ := e_ss_opm (M := EM) (S := S) (id := id) (off := off) (es := 1) (bnds_of (len := r.length + 1) (cap := cap) (m := r.length + 1) (h := 1) (l := 0) (bndO_at (i := r.length + 1) q1) (bndO_at (i := 1) (by omega)) (bndO_at (i := 0) (by omega)) rfl)
    refine wp_op ht ?_
    refine wp_eql_f (by omega) ?_
    repeat (first|refine zA ?_|refine zB rfl ?_|refine zC ?_|refine zD ?_|refine zE rfl ?_|refine zF ?_|refine zG ?_|refine zH ?_|refine zI ?_|refine zJ ?_|refine zK ?_|refine zL rfl ?_|refine zN rfl ?_)
    refine wp_leno H n hm ?_
    rw [hlen]
    refine wp_op (e_ss_op (bnds_of (m := cap) (h := 0) (l := 0) rfl (bndO_at (i := 0) (by omega)) rfl rfl)) ?_
    refine wp_op (e_ss_op (bnds_of (m := cap) (h := r.length + 1) (l := 1) rfl rfl (bndO_at (i := 1) (by omega)) rfl)) ?_
    have e1 : Nat.add off (Nat.mul 0 1) = off := by simp
    have e2 : elems S 1 (.op id (Nat.add off (Nat.mul 1 1)) (r.length + 1 - 1) (cap - 1) 1) = some (r.length, r.map I) := by
      show (match S.cells? id with | some c => if Nat.ble (Nat.add off (Nat.mul 1 1) + (r.length + 1 - 1) * 1) (lenL c) then some (r.length + 1 - 1, takeL ((r.length + 1 - 1) * 1) (dropL (Nat.add off (Nat.mul 1 1)) c)) else none | none => none) = _
      simp only [hcell]
      have hbl : Nat.ble (Nat.add off (Nat.mul 1 1) + (r.length + 1 - 1) * 1) (lenL c) = true := by rw [lenL_eq]; exact ble_t (by show off + 1 * 1 + (r.length + 1 - 1) * 1 ≤ _; omega)
      rw [if_pos hbl, takeL_eq, dropL_eq]
      have e3 : (r.length + 1 - 1) * 1 = r.length := by omega
      rw [e3]
      show some (r.length + 1 - 1, (c.drop (off + 1 * 1)).take r.length) = _
      rw [show off + 1 * 1 = off + 1 by omega, hnews]
      rfl
    rw [e1]
    refine wp_op (e_appOp e2 h1 (by omega) (by omega)) ?_
    have e4 : off + (0 - 0) * 1 = off := by omega
    rw [e4]
    refine wp_op (v := I (r.length : Int)) (S1 := S.set id (.row (setRange c off (r.map I)))) (by show pur (some (I ((0 - 0 + r.length : Nat) : Int))) _ = _; rw [show 0 - 0 + r.length = r.length by omega]; rfl) ?_
    have e5 : 0 - 0 + r.length = r.length := by omega
    have e6 : cap - 0 = cap := by omega
    rw [e5, e6]
    refine wp_op (e_ss_op (bnds_of (m := cap) (h := r.length + 1) (l := r.length) rfl (bndO_at (i := r.length + 1) q1) (bndO_at (i := r.length) (by omega)) rfl)) ?_
    have e7 : Nat.add off (Nat.mul r.length 1) = off + r.length := by show off + r.length * 1 = _; omega
    rw [e7]
    have l1 : (setRange c off (r.map I)).length = c.length := setRange_length (by simp; omega)
    refine wp_op (e_clr (S := S.set id (.row (setRange c off (r.map I)))) (es := 1) (off := off + r.length) (id := id) (c := setRange c off (r.map I)) (n := r.length + 1 - r.length) (cap := cap - r.length) (by rw [AH.get_set, if_pos rfl]) (by rw [l1]; omega) rfl (.inr rfl)) ?_
    refine wp_ret ⟨rfl, ?_⟩
    have e8 : repZero [I 0] (r.length + 1 - r.length) = [I 0] := by rw [show r.length + 1 - r.length = 1 by omega]; rfl
    rw [e8]
    exact fin (fun n => .op id off n cap 1) cap (fun n c' h h' => .inr ⟨cap, h, by omega, rfl⟩) rfl q1 (by omega) _ rfl
end
end Go.Abs
namespace Go.Abs
open Go.Proofs
set_option maxRecDepth 100000
set_option linter.unusedVariables false
open Tsk (Tk tks tchk)
/-! ### mailboxes -/
def mOwnG (x : Nat) (s : Ms) (m : Mv) (bz : List AV) : List Own := .obj x (.row (s.row m)) :: .sl m.vp 1 (ints s.passed) :: .sl m.vj 4 (lvs s.jobs) :: .sl m.vf 1 (ints s.free) :: .sl m.vm 1 (ptrs m.bx) :: .sl m.vr 1 (ints s.runs) :: .sl m.vg 1 (bls s.flags) :: List.zipWith boxO bz s.mail
theorem ptrs_len (l : List AV) : (ptrs l).length = l.length := List.length_map ..
theorem ptrs_get? {l : List AV} {i : Nat} {b : AV} (h : l[i]? = some b) : (ptrs l)[i]? = some [b] := by unfold ptrs; rw [List.getElem?_map, h]; rfl
theorem ptrs_set (l : List AV) (i : Nat) (b : AV) : (ptrs l).set i [b] = ptrs (l.set i b) := by unfold ptrs; rw [List.map_set]
theorem zip_get {bz : List AV} {ml : List (List Int)} {c : Nat} {b : AV} {l : List Int} (h1 : bz[c]? = some b) (h2 : ml[c]? = some l) : (List.zipWith boxO bz ml)[c]? = some (boxO b l) := by
  rw [List.getElem?_zipWith, h1, h2]
theorem zip_set : ∀ {bz : List AV} {ml : List (List Int)} {c : Nat} {b : AV} {l : List Int}, (List.zipWith boxO bz ml).set c (boxO b l) = List.zipWith boxO (bz.set c b) (ml.set c l)
  | [], _, _, _, _ => by simp
  | _ :: _, [], _, _, _ => by simp
  | _ :: _, _ :: _, 0, _, _ => rfl
  | _ :: bz, _ :: ml, c + 1, b, l => by
    simp only [List.zipWith_cons_cons, List.set_cons_succ]
    rw [zip_set]
theorem box_get {x : Nat} {s : Ms} {m : Mv} {R : List Own} {bz : List AV} {c : Nat} {b : AV} {l : List Int} (h1 : bz[c]? = some b) (h2 : s.mail[c]? = some l) : (mOwnG x s m bz ++ R)[c + 7]? = some (boxO b l) := by
  show (List.zipWith boxO bz s.mail ++ R)[c]? = _
  have h := zip_get h1 h2
  rw [List.getElem?_append_left (List.getElem?_eq_some_iff.1 h).1, h]
theorem box_set {x : Nat} {s : Ms} {m : Mv} {R : List Own} {bz : List AV} {c : Nat} {b b' : AV} {l l' : List Int} (h1 : bz[c]? = some b) (h2 : s.mail[c]? = some l) :
    (mOwnG x s m bz ++ R).set (c + 7) (boxO b' l') = mOwnG x { s with mail := s.mail.set c l' } m (bz.set c b') ++ R := by
  have h := zip_get h1 h2
  show _ :: _ :: _ :: _ :: _ :: _ :: _ :: (List.zipWith boxO bz s.mail ++ R).set c (boxO b' l') = _
  rw [List.set_append_left _ _ (List.getElem?_eq_some_iff.1 h).1, zip_set]
  rfl
/-! ### how parts turn -/
theorem Ms.Wf.job {s : Ms} (h : s.Wf) {i : Nat} (hi : i < s.jobs.length) : ∃ y, s.jobs[i]? = some y ∧ y.job = i := ⟨_, List.getElem?_eq_getElem hi, h.jj _ _ (List.getElem?_eq_getElem hi)⟩
theorem Ms.Wf.of_mem {s : Ms} (h : s.Wf) {y : Lv} (hy : y ∈ s.jobs) : ∃ i : Nat, y.job = i ∧ s.jobs[i]? = some y := by
  obtain ⟨i, hi⟩ := List.getElem?_of_mem hy
  exact ⟨i, h.jj _ _ hi, hi⟩
theorem Ms.Wf.setJob {s : Ms} (h : s.Wf) {i : Nat} {y : Lv} (hy : y.job = i) (hk : 0 ≤ y.key ∧ y.key < 18374686479671623680) : Ms.Wf { s with jobs := s.jobs.set i y } where
  fine := h.fine
  chk := h.chk
  pl := h.pl
  pb := h.pb
  jl := by show ((s.jobs.set i y).length : Int) = _; rw [List.length_set]; exact h.jl
  jj := fun j z hz => by
    replace hz : (s.jobs.set i y)[j]? = some z := hz
    rw [List.getElem?_set] at hz
    by_cases e : i = j
    · subst e
      rw [if_pos rfl] at hz
      split at hz
      · cases hz; exact hy
      · cases hz
    · rw [if_neg e] at hz
      exact h.jj j z hz
  kb := fun z hz => by
    rcases List.mem_or_eq_of_mem_set hz with hz | rfl
    · exact h.kb z hz
    · exact hk
  fl := by show s.free.length ≤ (s.jobs.set i y).length; rw [List.length_set]; exact h.fl
  fb := fun j hj => by have := h.fb j hj; show 0 ≤ j ∧ j < ((s.jobs.set i y).length : Int); rw [List.length_set]; exact this
  ml := h.ml
  mb := fun l hl => ⟨(h.mb l hl).1, fun j hj => by have := (h.mb l hl).2 j hj; show 0 ≤ j ∧ j < ((s.jobs.set i y).length : Int); rw [List.length_set]; exact this⟩
  rl := h.rl
  rb := fun j hj => by have := h.rb j hj; show -1 ≤ j ∧ j < ((s.jobs.set i y).length : Int); rw [List.length_set]; exact this
  gl := h.gl
  sq := h.sq
theorem Ms.Wf.setRun {s : Ms} (h : s.Wf) {c : Nat} {i : Int} (hi : -1 ≤ i ∧ i < s.jobs.length) : Ms.Wf { s with runs := s.runs.set c i } :=
  { h with
    rl := by show ((s.runs.set c i).length : Int) = _; rw [List.length_set]; exact h.rl
    rb := fun j hj => by
      rcases List.mem_or_eq_of_mem_set hj with hj | rfl
      · exact h.rb j hj
      · exact hi }
theorem Ms.Wf.setFlag {s : Ms} (h : s.Wf) {c : Nat} {b : Bool} : Ms.Wf { s with flags := s.flags.set c b } :=
  { h with gl := by show ((s.flags.set c b).length : Int) = _; rw [List.length_set]; exact h.gl }
theorem Ms.Wf.setMail {s : Ms} (h : s.Wf) {c : Nat} {l : List Int} (hl : (l.length : Int) ≤ s.su.room ∧ ∀ i ∈ l, 0 ≤ i ∧ i < s.jobs.length) : Ms.Wf { s with mail := s.mail.set c l } :=
  { h with
    ml := by show ((s.mail.set c l).length : Int) = _; rw [List.length_set]; exact h.ml
    mb := fun j hj => by
      rcases List.mem_or_eq_of_mem_set hj with hj | rfl
      · exact h.mb j hj
      · exact hl }
theorem Ms.Wf.setPassed {s : Ms} (h : s.Wf) {t : Nat} {p : Int} (hp : -1 ≤ p ∧ p ≤ 1099511627776) : Ms.Wf { s with passed := s.passed.set t p } :=
  { h with
    pl := by show (s.passed.set t p).length = _; rw [List.length_set]; exact h.pl
    pb := fun j hj => by
      rcases List.mem_or_eq_of_mem_set hj with hj | rfl
      · exact h.pb j hj
      · exact hp }
theorem Ms.Wf.setFree {s : Ms} (h : s.Wf) {l : List Int} (hl : l.length ≤ s.jobs.length) (hb : ∀ i ∈ l, 0 ≤ i ∧ i < s.jobs.length) : Ms.Wf { s with free := l } := { h with fl := hl, fb := hb }
theorem Ms.Wf.setSeq {s : Ms} (h : s.Wf) {q : Int} (hq : 0 ≤ q ∧ q ≤ 1152921504606846976) : Ms.Wf { s with seq := q } := { h with sq := hq }
theorem Bal.wf {s s' : Ms} (b : Bal s s') (h : s.Wf) : s'.Wf := by
  rcases b with ⟨_, rfl⟩ | ⟨z, c, w, _, _, _, rfl⟩
  · exact h
  · split
    · exact h
    · exact h.setFlag
section
variable {B0 S : AH} {W : List Nat} {own R : List Own} {ro : List Fct} {Q : Post} {k : AV → AC} {v : AV} {x : Nat} {s : Ms} {m : Mv}
/-! ### is it quiet? -/
theorem indexB_ok {l : List Bool} (H : Cx B0 W S own ro) (n : Nat) (hm : own[n]? = some (.sl v 1 (bls l))) (hl : l.length < 1000000) : wpC EM (.fn (.func 58) [] []) [v, B true] S fun r S' => (∃ i : Int, r = I i ∧ (0 ≤ i ↔ true ∈ l)) ∧ S' = S := by
  refine wpC_fn (b := Try.a58) rfl rfl ?_
  unfold Try.a58 Try.a58x2 Try.a58x1 Try.a58x0
  refine wp_leno H n hm ?_
  rw [bls_len]
  refine wp_bind (wp_loop (wpL_for l.length (fun i vs S1 => ∃ w : AV, vs = [I (i : Int), w] ∧ S1 = S ∧ true ∉ l.take i) ?_ ?_ ⟨_, rfl, rfl, by simp⟩))
  · rintro i vs S1 hlt ⟨w, rfl, rfl, hn⟩
    refine wp_lss_t (by omega) ?_
    repeat (first|refine zA ?_|refine zB rfl ?_|refine zC ?_|refine zD ?_|refine zE rfl ?_|refine zF ?_|refine zG ?_|refine zH ?_|refine zI ?_|refine zJ ?_|refine zK ?_|refine zL rfl ?_|refine zN rfl ?_)
    refine wp_bind ?_
    refine wp_at (es := 1) H n hm (by rw [bls_len]; exact hlt) fun id off hp => ?_
    refine wp_atL0 H n hm hp (bls_get hlt) rfl ?_
    refine wp_op (e_eqb undB) ?_
    have e : (if false = true then !(true == l[i]) else (true == l[i])) = l[i] := by simp
    rw [e]
    refine wp_ite_b (fun h => ?_) (fun h => ?_)
    · repeat (first|refine zA ?_|refine zB rfl ?_|refine zC ?_|refine zD ?_|refine zE rfl ?_|refine zF ?_|refine zG ?_|refine zH ?_|refine zI ?_|refine zJ ?_|refine zK ?_|refine zL rfl ?_|refine zN rfl ?_)
      exact wp_ret (.inr ⟨by simp, rfl, ⟨_, rfl, ⟨fun _ => by rw [← h]; exact List.getElem_mem hlt, fun _ => by omega⟩⟩, rfl⟩)
    · repeat (first|refine zA ?_|refine zB rfl ?_|refine zC ?_|refine zD ?_|refine zE rfl ?_|refine zF ?_|refine zG ?_|refine zH ?_|refine zI ?_|refine zJ ?_|refine zK ?_|refine zL rfl ?_|refine zN rfl ?_)
      refine wp_ret ?_
      show wp EM _ _ _
      refine wp_add64 (by omega) (by omega) (wp_ret (.inl ⟨rfl, _, rfl, rfl, ?_⟩))
      rw [List.take_succ_eq_append_getElem hlt, h]
      simp; simpa using hn
  · rintro vs S1 ⟨w, rfl, rfl, hn⟩
    rw [List.take_length] at hn
    refine wp_lss_f (by omega) ?_
    repeat (first|refine zA ?_|refine zB rfl ?_|refine zC ?_|refine zD ?_|refine zE rfl ?_|refine zF ?_|refine zG ?_|refine zH ?_|refine zI ?_|refine zJ ?_|refine zK ?_|refine zL rfl ?_|refine zN rfl ?_)
    refine wp_ret ⟨by simp, ?_⟩
    show wp EM _ _ _
    exact wp_ret ⟨rfl, ⟨-1, rfl, ⟨fun h => by omega, fun h => absurd h hn⟩⟩, rfl⟩
theorem containsB_ok {l : List Bool} (H : Cx B0 W S own ro) (n : Nat) (hm : own[n]? = some (.sl v 1 (bls l))) (hl : l.length < 1000000) : wpC EM (.fn (.func 40) [] []) [v, B true] S fun r S' => r = B (decide (true ∈ l)) ∧ S' = S := by
  refine wpC_fn (b := Try.a40) rfl rfl ?_
  unfold Try.a40
  refine wp_call (wpC_mono (indexB_ok H n hm hl) fun r S1 q => ?_)
  obtain ⟨⟨i, rfl, hi⟩, rfl⟩ := q
  refine wp_op e_geq ?_
  refine wp_ret ⟨rfl, ?_, rfl⟩
  have : decide (0 ≤ i) = decide (true ∈ l) := decide_eq_decide.2 hi
  rw [this]; rfl
theorem hasMail_ok (hb : m.bx.length = s.mail.length) (H : Cx B0 W S (mOwn x s m ++ R) ro) (hl : s.mail.length < 1000000) : wpC EM (.fn (.func 41) [] []) [m.vm, .fn (.func 42) [] []] S fun r S' => r = B (decide (∃ l ∈ s.mail, l ≠ [])) ∧ S' = S := by
  refine wpC_fn (b := Try.a41) rfl rfl ?_
  unfold Try.a41
  have H : Cx B0 W S (mOwnG x s m m.bx ++ R) ro := H
  have hidx : wpC EM (.fn (.func 59) [] []) [m.vm, .fn (.func 42) [] []] S fun r S' => (∃ i : Int, r = I i ∧ (0 ≤ i ↔ ∃ l ∈ s.mail, l ≠ [])) ∧ S' = S := by
    refine wpC_fn (b := Try.a59) rfl rfl ?_
    unfold Try.a59 Try.a59x2 Try.a59x1 Try.a59x0
    refine wp_leno H 4 rfl ?_
    rw [ptrs_len, hb]
    refine wp_bind (wp_loop (wpL_for s.mail.length (fun i vs S1 => ∃ w : AV, vs = [I (i : Int), w] ∧ S1 = S ∧ ¬ ∃ l ∈ s.mail.take i, l ≠ []) ?_ ?_ ⟨_, rfl, rfl, by simp⟩))
    · rintro i vs S1 hlt ⟨w, rfl, rfl, hn⟩
      have h1 : m.bx[i]? = some (m.bx[i]'(by omega)) := List.getElem?_eq_getElem _
      have h2 : s.mail[i]? = some s.mail[i] := List.getElem?_eq_getElem hlt
      generalize m.bx[i]'(by omega) = b at h1
      refine wp_lss_t (by omega) ?_
      repeat (first|refine zA ?_|refine zB rfl ?_|refine zC ?_|refine zD ?_|refine zE rfl ?_|refine zF ?_|refine zG ?_|refine zH ?_|refine zI ?_|refine zJ ?_|refine zK ?_|refine zL rfl ?_|refine zN rfl ?_)
      refine wp_bind ?_
      refine wp_at (es := 1) H 4 rfl (by rw [ptrs_len]; omega) fun id off hp => ?_
      refine wp_atL0 H 4 rfl hp (ptrs_get? h1) rfl ?_
      have hq : wpC EM (.fn (.func 42) [] []) [b] S1 fun r S' => r = B (decide (0 < s.mail[i].length)) ∧ S' = S1 := by
        refine wpC_fn (b := Try.a42) rfl rfl ?_
        unfold Try.a42
        refine wp_leno H (i + 7) (box_get h1 h2) ?_
        rw [ints_len]
        refine wp_op e_gtr ?_
        refine wp_ret ⟨rfl, ?_, rfl⟩
        have : decide ((0 : Int) < (s.mail[i].length : Int)) = decide (0 < s.mail[i].length) := decide_eq_decide.2 (by omega)
        rw [this]; rfl
      refine wp_call (wpC_mono hq fun r S2 q => ?_)
      obtain ⟨rfl, rfl⟩ := q
      refine wp_ite_b (fun h => ?_) (fun h => ?_)
      · repeat (first|refine zA ?_|refine zB rfl ?_|refine zC ?_|refine zD ?_|refine zE rfl ?_|refine zF ?_|refine zG ?_|refine zH ?_|refine zI ?_|refine zJ ?_|refine zK ?_|refine zL rfl ?_|refine zN rfl ?_)
        refine wp_ret (.inr ⟨by simp, rfl, ⟨_, rfl, ⟨fun _ => ⟨_, List.getElem_mem hlt, ?_⟩, fun _ => by omega⟩⟩, rfl⟩)
        intro e
        rw [e] at h; simp at h
      · repeat (first|refine zA ?_|refine zB rfl ?_|refine zC ?_|refine zD ?_|refine zE rfl ?_|refine zF ?_|refine zG ?_|refine zH ?_|refine zI ?_|refine zJ ?_|refine zK ?_|refine zL rfl ?_|refine zN rfl ?_)
        refine wp_ret ?_
        show wp EM _ _ _
        refine wp_add64 (by omega) (by omega) (wp_ret (.inl ⟨rfl, _, rfl, rfl, ?_⟩))
        rw [List.take_succ_eq_append_getElem hlt]
        rintro ⟨l, hl, hne⟩
        rcases List.mem_append.1 hl with hl | hl
        · exact hn ⟨l, hl, hne⟩
        · rw [List.mem_singleton] at hl
          subst hl
          exact hne (List.eq_nil_of_length_eq_zero (by have := of_decide_eq_false h; omega))
    · rintro vs S1 ⟨w, rfl, rfl, hn⟩
      rw [List.take_length] at hn
      refine wp_lss_f (by omega) ?_
      repeat (first|refine zA ?_|refine zB rfl ?_|refine zC ?_|refine zD ?_|refine zE rfl ?_|refine zF ?_|refine zG ?_|refine zH ?_|refine zI ?_|refine zJ ?_|refine zK ?_|refine zL rfl ?_|refine zN rfl ?_)
      refine wp_ret ⟨by simp, ?_⟩
      show wp EM _ _ _
      exact wp_ret ⟨rfl, ⟨-1, rfl, ⟨fun h => by omega, fun h => absurd h hn⟩⟩, rfl⟩
  refine wp_call (wpC_mono hidx fun r S1 q => ?_)
  obtain ⟨⟨i, rfl, hi⟩, rfl⟩ := q
  refine wp_op e_geq ?_
  refine wp_ret ⟨rfl, ?_, rfl⟩
  have : decide (0 ≤ i) = decide (∃ l ∈ s.mail, l ≠ []) := decide_eq_decide.2 hi
  rw [this]; rfl
/-- no flag is set, no mailbox holds anything -/
def Ms.quiet (s : Ms) : Prop := true ∉ s.flags ∧ ∀ l ∈ s.mail, l = []
instance (s : Ms) : Decidable s.quiet := inferInstanceAs (Decidable (_ ∧ _))
theorem quiet_ok (wf : s.Wf) (hb : m.bx.length = s.mail.length) (H : Cx B0 W S (mOwn x s m ++ R) ro) : wpC EM (.fn (.func 20) [] []) [.ptr x 0] S fun r S' => r = B (decide s.quiet) ∧ S' = S := by
  refine wpC_fn (b := Try.a20) rfl rfl ?_
  unfold Try.a20 Try.a20x1 Try.a20x0
  have hc := wf.c64
  have hml := wf.ml
  have hgl := wf.gl
  refine wp_call (wpC_mono (nothing_ok (by have := wf.j64; omega) H) fun r S1 q => ?_)
  obtain ⟨rfl, rfl⟩ := q
  repeat (first|refine zA ?_|refine zB rfl ?_|refine zC ?_|refine zD ?_|refine zE rfl ?_|refine zF ?_|refine zG ?_|refine zH ?_|refine zI ?_|refine zJ ?_|refine zK ?_|refine zL rfl ?_|refine zN rfl ?_)
  refine wp_row (j := 13) H 0 rfl rfl ?_
  repeat (first|refine zA ?_|refine zB rfl ?_|refine zC ?_|refine zD ?_|refine zE rfl ?_|refine zF ?_|refine zG ?_|refine zH ?_|refine zI ?_|refine zJ ?_|refine zK ?_|refine zL rfl ?_|refine zN rfl ?_)
  refine wp_call (wpC_mono (containsB_ok H 6 rfl (by omega)) fun r S2 q => ?_)
  obtain ⟨rfl, rfl⟩ := q
  repeat (first|refine zA ?_|refine zB rfl ?_|refine zC ?_|refine zD ?_|refine zE rfl ?_|refine zF ?_|refine zG ?_|refine zH ?_|refine zI ?_|refine zJ ?_|refine zK ?_|refine zL rfl ?_|refine zN rfl ?_)
  refine wp_ite_b (fun h => ?_) (fun h => ?_)
  · repeat (first|refine zA ?_|refine zB rfl ?_|refine zC ?_|refine zD ?_|refine zE rfl ?_|refine zF ?_|refine zG ?_|refine zH ?_|refine zI ?_|refine zJ ?_|refine zK ?_|refine zL rfl ?_|refine zN rfl ?_)
    refine wp_ret ⟨rfl, ?_, rfl⟩
    rw [decide_eq_false (fun q => q.1 (of_decide_eq_true h))]; rfl
  · repeat (first|refine zA ?_|refine zB rfl ?_|refine zC ?_|refine zD ?_|refine zE rfl ?_|refine zF ?_|refine zG ?_|refine zH ?_|refine zI ?_|refine zJ ?_|refine zK ?_|refine zL rfl ?_|refine zN rfl ?_)
    refine wp_row (j := 11) H 0 rfl rfl ?_
    refine wp_call (wpC_mono (hasMail_ok hb H (by omega)) fun r S2 q => ?_)
    obtain ⟨rfl, rfl⟩ := q
    refine wp_not ?_
    refine wp_ret ⟨rfl, ?_, rfl⟩
    have e : (!decide (∃ l ∈ s.mail, l ≠ [])) = decide s.quiet := by
      rw [← decide_not]
      refine decide_eq_decide.2 ⟨fun q => ⟨of_decide_eq_false h, fun l hl => Classical.byContradiction fun hne => q ⟨l, hl, hne⟩⟩, fun q ⟨l, hl, hne⟩ => hne (q.2 l hl)⟩
    rw [e]; rfl
theorem live_ok (wf : s.Wf) (hj : s.jobs.length ≤ 12) (H : Cx B0 W S (mOwn x s m ++ R) ro) : wpC EM (.fn (.func 21) [] []) [.ptr x 0] S fun r S' => ∃ L, StS (liv s.jobs) L ∧ L.length = (liv s.jobs).length ∧ Cx B0 W S' (.sl r 4 (lvs L) :: (mOwn x s m ++ R)) ro := by
  refine wpC_fn (b := Try.a21) rfl rfl ?_
  unfold Try.a21 Try.a21x0
  refine wp_call (wpC_mono (nothing_ok (by have := wf.j64; omega) H) fun r S1 q => ?_)
  obtain ⟨rfl, rfl⟩ := q
  repeat (first|refine zA ?_|refine zB rfl ?_|refine zC ?_|refine zD ?_|refine zE rfl ?_|refine zF ?_|refine zG ?_|refine zH ?_|refine zI ?_|refine zJ ?_|refine zK ?_|refine zL rfl ?_|refine zN rfl ?_)
  refine wp_row (j := 9) H 0 rfl rfl ?_
  refine wp_call (wpC_mono (lives_ok hj H) fun r S2 q => ?_)
  exact wp_ret ⟨rfl, q⟩
end
end Go.Abs
namespace Go.Abs
open Go.Proofs
set_option maxRecDepth 100000
set_option linter.unusedVariables false
open Tsk (Tk tks tchk)
def Deal (kind at' now : Int) : AV := .agg [I kind, I at', I now]
/-- the soonest ready one is claimed -/
def Ms.claim (s : Ms) (c : Nat) (z : Lv) : Ms := { s with jobs := s.jobs.set z.job.toNat ⟨z.job, 4, c, z.key⟩, runs := s.runs.set c z.job }
def PickR (s : Ms) (c : Nat) (r e : Int) (s' : Ms) : Prop :=
  (∃ i, s.runs[c]? = some i ∧ i ≠ -1 ∧ r = -1 ∧ e = 11 ∧ s' = s) ∨ (s.runs[c]? = some (-1) ∧ rdy s.jobs = [] ∧ r = -1 ∧ e = 15 ∧ s' = s) ∨
  ∃ z, s.runs[c]? = some (-1) ∧ IsLeast z (rdy s.jobs) ∧ r = z.job ∧ e = 0 ∧ Bal (s.claim c z) s'
/-- the first one of a mailbox comes to be ready -/
def Ms.takes (s : Ms) (c : Nat) (y : Lv) (l : List Int) : Ms := { s with mail := s.mail.set c l, jobs := s.jobs.set y.job.toNat { y with st := 3 } }
def TakeR (s : Ms) (c : Nat) (r e : Int) (s' : Ms) : Prop :=
  (s.mail[c]? = some [] ∧ r = -1 ∧ e = 15 ∧ s' = s) ∨ ∃ i l y, s.mail[c]? = some (i :: l) ∧ s.jobs[i.toNat]? = some y ∧ r = i ∧ e = 0 ∧ Bal (s.takes c y l) s'
/-- what a core runs is free again -/
def Ms.ends (s : Ms) (c : Nat) (y : Lv) : Ms := { s with jobs := s.jobs.set y.job.toNat { y with st := 1, core := 0 }, runs := s.runs.set c (-1), free := y.job :: s.free }
def EndR (s : Ms) (c : Nat) (r e : Int) (s' : Ms) : Prop :=
  (s.runs[c]? = some (-1) ∧ r = -1 ∧ e = 15 ∧ s' = s) ∨ ∃ i y, s.runs[c]? = some i ∧ i ≠ -1 ∧ s.jobs[i.toNat]? = some y ∧ r = i ∧ e = 0 ∧ Bal (s.ends c y) s'
theorem Ms.Wf.least {s : Ms} (h : s.Wf) {z : Lv} (hz : IsLeast z (rdy s.jobs)) : ∃ i : Nat, z.job = i ∧ s.jobs[i]? = some z ∧ z.st = 3 := by
  have hm := List.mem_filter.1 hz.1
  obtain ⟨i, h1, h2⟩ := h.of_mem hm.1
  exact ⟨i, h1, h2, by simpa using hm.2⟩
theorem Ms.Wf.claim {s : Ms} (h : s.Wf) {c : Nat} {z : Lv} (hz : IsLeast z (rdy s.jobs)) : (s.claim c z).Wf := by
  obtain ⟨i, h1, h2, _⟩ := h.least hz
  have hi := (List.getElem?_eq_some_iff.1 h2).1
  have := (h.setJob (i := i) (y := ⟨z.job, 4, c, z.key⟩) h1 (h.kb z (List.mem_of_getElem? h2))).setRun (c := c) (i := z.job) (by show -1 ≤ z.job ∧ z.job < ((s.jobs.set i _).length : Int); rw [List.length_set, h1]; omega)
  unfold Ms.claim
  rw [h1] at this ⊢
  exact this
section
variable {B0 S : AH} {W : List Nat} {own R : List Own} {ro : List Fct} {Q : Post} {k : AV → AC} {v : AV} {x : Nat} {s : Ms} {m : Mv}
set_option maxHeartbeats 1000000 in
theorem pick_ok' {kind now : Int} {c : Nat} (wf : s.Wf) (hj : s.jobs.length ≤ 12) (hc : (c : Int) < s.su.cores) (H : Cx B0 W S (mOwn x s m ++ R) ro) :
    wpC EM (.fn (.func 55) [] []) [.ptr x 0, Deal kind c now] S fun u S' => ∃ r e s', u = .tup [I r, I e] ∧ PickR s c r e s' ∧ Cx B0 W S' (mOwn x s' m ++ R) ro := by
  refine wpC_fn (b := Try.a55) rfl rfl ?_
  unfold Try.a55 Try.a55x5 Try.a55x4 Try.a55x3 Try.a55x2 Try.a55x1 Try.a55x0
  have hrl := wf.rl
  have hcl : c < s.runs.length := by omega
  have hr : s.runs[c]? = some s.runs[c] := List.getElem?_eq_getElem hcl
  generalize s.runs[c] = i at hr
  refine wp_box H rfl fun b S1 H1 => ?_
  have H1 : Cx B0 W S1 (mOwn x s m ++ R) (.pt b 0 [I kind, I (c : Int), I now] :: ro) := H1
  repeat (first|refine zA ?_|refine zB rfl ?_|refine zC ?_|refine zD ?_|refine zE rfl ?_|refine zF ?_|refine zG ?_|refine zH ?_|refine zI ?_|refine zJ ?_|refine zK ?_|refine zL rfl ?_|refine zN rfl ?_)
  refine wp_row (j := 12) H1 0 rfl rfl ?_
  repeat (first|refine zA ?_|refine zB rfl ?_|refine zC ?_|refine zD ?_|refine zE rfl ?_|refine zF ?_|refine zG ?_|refine zH ?_|refine zI ?_|refine zJ ?_|refine zK ?_|refine zL rfl ?_|refine zN rfl ?_)
  refine wp_ld H1 (o := 1) (cs := [I kind, I (c : Int), I now]) (by repeat (first | exact List.Mem.head _ | apply List.Mem.tail)) rfl ?_
  refine wp_at (es := 1) H1 5 rfl (by rw [ints_len]; exact hcl) fun id off hp => ?_
  refine wp_atL0 H1 5 rfl hp (ints_get? hr) rfl ?_
  refine wp_neq (fun hne => ?_) (fun he => ?_)
  · repeat (first|refine zA ?_|refine zB rfl ?_|refine zC ?_|refine zD ?_|refine zE rfl ?_|refine zF ?_|refine zG ?_|refine zH ?_|refine zI ?_|refine zJ ?_|refine zK ?_|refine zL rfl ?_|refine zN rfl ?_)
    exact wp_ret ⟨rfl, -1, 11, s, rfl, .inl ⟨i, hr, hne, rfl, rfl, rfl⟩, H1.tl⟩
  subst he
  repeat (first|refine zA ?_|refine zB rfl ?_|refine zC ?_|refine zD ?_|refine zE rfl ?_|refine zF ?_|refine zG ?_|refine zH ?_|refine zI ?_|refine zJ ?_|refine zK ?_|refine zL rfl ?_|refine zN rfl ?_)
  refine wp_call (wpC_mono (ready_ok hj H1) fun l S2 q => ?_)
  obtain ⟨L, hL, hLl, H2⟩ := q
  refine wp_leno H2 0 rfl ?_
  rw [lvs_len]
  refine wp_eql (fun h0 => ?_) (fun h0 => ?_)
  · repeat (first|refine zA ?_|refine zB rfl ?_|refine zC ?_|refine zD ?_|refine zE rfl ?_|refine zF ?_|refine zG ?_|refine zH ?_|refine zI ?_|refine zJ ?_|refine zK ?_|refine zL rfl ?_|refine zN rfl ?_)
    exact wp_ret ⟨rfl, -1, 15, s, rfl, .inr (.inl ⟨hr, List.eq_nil_of_length_eq_zero (by omega), rfl, rfl, rfl⟩), (H2.dropAt 0).tl⟩
  cases L with
  | nil => simp at h0
  | cons z L =>
  have hz := hL.head
  obtain ⟨n, h1, h2, h3⟩ := wf.least hz
  have hn := (List.getElem?_eq_some_iff.1 h2).1
  repeat (first|refine zA ?_|refine zB rfl ?_|refine zC ?_|refine zD ?_|refine zE rfl ?_|refine zF ?_|refine zG ?_|refine zH ?_|refine zI ?_|refine zJ ?_|refine zK ?_|refine zL rfl ?_|refine zN rfl ?_)
  refine wp_at (es := 4) (i := 0) H2 0 rfl (by simp [lvs]) fun id off hp => ?_
  repeat (first|refine zA ?_|refine zB rfl ?_|refine zC ?_|refine zD ?_|refine zE rfl ?_|refine zF ?_|refine zG ?_|refine zH ?_|refine zI ?_|refine zJ ?_|refine zK ?_|refine zL rfl ?_|refine zN rfl ?_)
  refine wp_atL H2 0 rfl hp (x := z.cs) rfl (j := 0) rfl ?_
  rw [h1]
  repeat (first|refine zA ?_|refine zB rfl ?_|refine zC ?_|refine zD ?_|refine zE rfl ?_|refine zF ?_|refine zG ?_|refine zH ?_|refine zI ?_|refine zJ ?_|refine zK ?_|refine zL rfl ?_|refine zN rfl ?_)
  refine wp_row (j := 9) H2 1 rfl rfl ?_
  repeat (first|refine zA ?_|refine zB rfl ?_|refine zC ?_|refine zD ?_|refine zE rfl ?_|refine zF ?_|refine zG ?_|refine zH ?_|refine zI ?_|refine zJ ?_|refine zK ?_|refine zL rfl ?_|refine zN rfl ?_)
  refine wp_row (j := 9) H2 1 rfl rfl ?_
  repeat (first|refine zA ?_|refine zB rfl ?_|refine zC ?_|refine zD ?_|refine zE rfl ?_|refine zF ?_|refine zG ?_|refine zH ?_|refine zI ?_|refine zJ ?_|refine zK ?_|refine zL rfl ?_|refine zN rfl ?_)
  refine wp_ld H2 (o := 1) (cs := [I kind, I (c : Int), I now]) (by repeat (first | exact List.Mem.head _ | apply List.Mem.tail)) rfl ?_
  refine wp_at (es := 4) (i := n) H2 3 rfl (by rw [lvs_len]; exact hn) fun id off hp => ?_
  repeat (first|refine zA ?_|refine zB rfl ?_|refine zC ?_|refine zD ?_|refine zE rfl ?_|refine zF ?_|refine zG ?_|refine zH ?_|refine zI ?_|refine zJ ?_|refine zK ?_|refine zL rfl ?_|refine zN rfl ?_)
  refine wp_atS H2 3 rfl hp (lvs_get? h2) (j := 1) rfl rfl (by omega) (by simp [Lv.cs]) fun S3 H3 => ?_
  have e1 : (lvs s.jobs).set n (z.cs.set 1 (I 4)) = lvs (s.jobs.set n { z with st := 4 }) := lvs_set s.jobs n { z with st := 4 }
  rw [e1] at H3
  have H3 : Cx B0 W S3 (.sl l 4 (lvs (z :: L)) :: (mOwn x { s with jobs := s.jobs.set n { z with st := 4 } } m ++ R)) (.pt b 0 [I kind, I (c : Int), I now] :: ro) := H3
  refine wp_chk1 H3 (cs := [I kind, I (c : Int), I now]) (off := 0) (j := 1) (by repeat (first | exact List.Mem.head _ | apply List.Mem.tail)) rfl beq_num ?_
  refine wp_at (es := 4) (i := n) H3 3 rfl (by rw [lvs_len]; simpa using hn) fun id off hp => ?_
  repeat (first|refine zA ?_|refine zB rfl ?_|refine zC ?_|refine zD ?_|refine zE rfl ?_|refine zF ?_|refine zG ?_|refine zH ?_|refine zI ?_|refine zJ ?_|refine zK ?_|refine zL rfl ?_|refine zN rfl ?_)
  refine wp_atS H3 3 rfl hp (x := Lv.cs { z with st := 4 }) (lvs_get? (by rw [List.getElem?_set]; simp [hn])) (j := 2) rfl rfl (by omega) (by simp [Lv.cs]) fun S4 H4 => ?_
  have e2 : (lvs (s.jobs.set n { z with st := 4 })).set n ((Lv.cs { z with st := 4 }).set 2 (I (c : Int))) = lvs (s.jobs.set n ⟨z.job, 4, c, z.key⟩) := by
    have := lvs_set (s.jobs.set n { z with st := 4 }) n ⟨z.job, 4, c, z.key⟩
    rw [List.set_set] at this
    exact this
  rw [e2] at H4
  have H4 : Cx B0 W S4 (.sl l 4 (lvs (z :: L)) :: (mOwn x { s with jobs := s.jobs.set n ⟨z.job, 4, c, z.key⟩ } m ++ R)) (.pt b 0 [I kind, I (c : Int), I now] :: ro) := H4
  repeat (first|refine zA ?_|refine zB rfl ?_|refine zC ?_|refine zD ?_|refine zE rfl ?_|refine zF ?_|refine zG ?_|refine zH ?_|refine zI ?_|refine zJ ?_|refine zK ?_|refine zL rfl ?_|refine zN rfl ?_)
  refine wp_row (j := 12) H4 1 rfl rfl ?_
  repeat (first|refine zA ?_|refine zB rfl ?_|refine zC ?_|refine zD ?_|refine zE rfl ?_|refine zF ?_|refine zG ?_|refine zH ?_|refine zI ?_|refine zJ ?_|refine zK ?_|refine zL rfl ?_|refine zN rfl ?_)
  refine wp_ld H4 (o := 1) (cs := [I kind, I (c : Int), I now]) (by repeat (first | exact List.Mem.head _ | apply List.Mem.tail)) rfl ?_
  refine wp_at (es := 1) (i := c) H4 6 rfl (by rw [ints_len]; exact hcl) fun id off hp => ?_
  refine wp_atS0 H4 6 rfl hp (ints_get? hr) rfl rfl (by omega) (by simp) fun S5 H5 => ?_
  have e3 : (ints s.runs).set c ([I (-1)].set 0 (I (n : Int))) = ints (s.runs.set c n) := ints_set _ _ _
  rw [e3] at H5
  have H5 := H5.dropAt 0
  have e4 : s.claim c z = { s with jobs := s.jobs.set n ⟨z.job, 4, c, z.key⟩, runs := s.runs.set c n } := by unfold Ms.claim; rw [h1]; rfl
  have H5 : Cx B0 W S5 (mOwn x (s.claim c z) m ++ R) (.pt b 0 [I kind, I (c : Int), I now] :: ro) := by rw [e4]; exact H5
  refine wp_call (wpC_mono (balance_ok (wf.claim (c := c) hz) (by rw [e4]; show (s.jobs.set n _).length ≤ 12; rw [List.length_set]; exact hj) H5) fun _ S6 q => ?_)
  obtain ⟨s', hb, H6⟩ := q
  exact wp_ret ⟨rfl, _, _, s', rfl, .inr (.inr ⟨z, hr, hz, h1.symm, rfl, hb⟩), H6.tl⟩
theorem Ms.Wf.takes {s : Ms} (h : s.Wf) {c : Nat} {i : Int} {l : List Int} {y : Lv} (h1 : s.mail[c]? = some (i :: l)) (h2 : s.jobs[i.toNat]? = some y) : (s.takes c y l).Wf := by
  have hm := h.mb _ (List.mem_of_getElem? h1)
  have hy : y.job = (i.toNat : Int) := h.jj _ _ h2
  have := (h.setMail (c := c) (l := l) ⟨by have := hm.1; rw [List.length_cons] at this; omega, fun j hj => hm.2 j (List.mem_cons_of_mem _ hj)⟩).setJob (i := i.toNat) (y := { y with st := 3 }) hy (h.kb y (List.mem_of_getElem? h2))
  have e : y.job.toNat = i.toNat := by rw [hy, Int.toNat_natCast]
  unfold Ms.takes
  rw [e]
  exact this
set_option maxHeartbeats 1000000 in
theorem take_ok {kind now : Int} {c : Nat} (wf : s.Wf) (hbx : m.bx.length = s.mail.length) (hj : s.jobs.length ≤ 12) (hc : (c : Int) < s.su.cores) (H : Cx B0 W S (mOwn x s m ++ R) ro) :
    wpC EM (.fn (.func 54) [] []) [.ptr x 0, Deal kind c now] S fun u S' => ∃ r e s' m', u = .tup [I r, I e] ∧ TakeR s c r e s' ∧ m'.bx.length = s'.mail.length ∧ m'.vt = m.vt ∧ Cx B0 W S' (mOwn x s' m' ++ R) ro := by
  refine wpC_fn (b := Try.a54) rfl rfl ?_
  unfold Try.a54 Try.a54x3 Try.a54x2 Try.a54x1 Try.a54x0
  have hml := wf.ml
  have hcl : c < s.mail.length := by omega
  have h1 : m.bx[c]? = some (m.bx[c]'(by omega)) := List.getElem?_eq_getElem _
  generalize m.bx[c]'(by omega) = bo at h1
  have h2 : s.mail[c]? = some s.mail[c] := List.getElem?_eq_getElem hcl
  generalize s.mail[c] = bl at h2
  refine wp_box H rfl fun b S1 H1 => ?_
  have H1 : Cx B0 W S1 (mOwnG x s m m.bx ++ R) (.pt b 0 [I kind, I (c : Int), I now] :: ro) := H1
  repeat (first|refine zA ?_|refine zB rfl ?_|refine zC ?_|refine zD ?_|refine zE rfl ?_|refine zF ?_|refine zG ?_|refine zH ?_|refine zI ?_|refine zJ ?_|refine zK ?_|refine zL rfl ?_|refine zN rfl ?_)
  refine wp_row (j := 11) H1 0 rfl rfl ?_
  repeat (first|refine zA ?_|refine zB rfl ?_|refine zC ?_|refine zD ?_|refine zE rfl ?_|refine zF ?_|refine zG ?_|refine zH ?_|refine zI ?_|refine zJ ?_|refine zK ?_|refine zL rfl ?_|refine zN rfl ?_)
  refine wp_ld H1 (o := 1) (cs := [I kind, I (c : Int), I now]) (by repeat (first | exact List.Mem.head _ | apply List.Mem.tail)) rfl ?_
  refine wp_at (es := 1) H1 4 rfl (by rw [ptrs_len]; omega) fun id off hp => ?_
  repeat (first|refine zA ?_|refine zB rfl ?_|refine zC ?_|refine zD ?_|refine zE rfl ?_|refine zF ?_|refine zG ?_|refine zH ?_|refine zI ?_|refine zJ ?_|refine zK ?_|refine zL rfl ?_|refine zN rfl ?_)
  refine wp_atL0 H1 4 rfl hp (ptrs_get? h1) rfl ?_
  refine wp_leno H1 (c + 7) (box_get h1 h2) ?_
  rw [ints_len]
  refine wp_eql (fun h0 => ?_) (fun h0 => ?_)
  · repeat (first|refine zA ?_|refine zB rfl ?_|refine zC ?_|refine zD ?_|refine zE rfl ?_|refine zF ?_|refine zG ?_|refine zH ?_|refine zI ?_|refine zJ ?_|refine zK ?_|refine zL rfl ?_|refine zN rfl ?_)
    have : bl = [] := List.eq_nil_of_length_eq_zero (by omega)
    subst this
    exact wp_ret ⟨rfl, -1, 15, s, m, rfl, .inl ⟨h2, rfl, rfl, rfl⟩, hbx, rfl, H1.tl⟩
  cases bl with
  | nil => simp at h0
  | cons i l =>
  have hm := wf.mb _ (List.mem_of_getElem? h2)
  have hib := hm.2 i (List.mem_cons_self ..)
  obtain ⟨n, rfl⟩ : ∃ n : Nat, i = (n : Int) := ⟨i.toNat, by omega⟩
  have hn : n < s.jobs.length := by omega
  obtain ⟨y, hy, hyj⟩ := wf.job hn
  repeat (first|refine zA ?_|refine zB rfl ?_|refine zC ?_|refine zD ?_|refine zE rfl ?_|refine zF ?_|refine zG ?_|refine zH ?_|refine zI ?_|refine zJ ?_|refine zK ?_|refine zL rfl ?_|refine zN rfl ?_)
  refine wp_atL0 H1 4 rfl hp (ptrs_get? h1) rfl ?_
  refine wp_at (es := 1) (i := 0) H1 (c + 7) (box_get h1 h2) (by simp [ints]) fun id2 off2 hp2 => ?_
  refine wp_atL0 H1 (c + 7) (box_get h1 h2) hp2 (x := [I (n : Int)]) rfl rfl ?_
  repeat (first|refine zA ?_|refine zB rfl ?_|refine zC ?_|refine zD ?_|refine zE rfl ?_|refine zF ?_|refine zG ?_|refine zH ?_|refine zI ?_|refine zJ ?_|refine zK ?_|refine zL rfl ?_|refine zN rfl ?_)
  refine wp_atL0 H1 4 rfl hp (ptrs_get? h1) rfl ?_
  refine wp_call (wpC_mono (del0_ok H1 (c + 7) (box_get h1 h2)) fun u S2 H2 => ?_)
  have H2 : Cx B0 W S2 ((mOwnG x s m m.bx ++ R).set (c + 7) (boxO u l)) (.pt b 0 [I kind, I (c : Int), I now] :: ro) := H2
  rw [box_set h1 h2] at H2
  have hbz : (m.bx.set c u)[c]? = some u := by rw [List.getElem?_set]; simp; omega
  have hmz : ({ s with mail := s.mail.set c l } : Ms).mail[c]? = some l := by show (s.mail.set c l)[c]? = _; rw [List.getElem?_set]; simp [hcl]
  obtain ⟨ho1, ho2⟩ := slOk_odd1 (ownSl_ok (H2.oh _ (List.mem_of_getElem? (box_get hbz hmz))))
  repeat (first|refine zA ?_|refine zB rfl ?_|refine zC ?_|refine zD ?_|refine zE rfl ?_|refine zF ?_|refine zG ?_|refine zH ?_|refine zI ?_|refine zJ ?_|refine zK ?_|refine zL rfl ?_|refine zN rfl ?_)
  refine wp_atS0 H2 4 rfl hp (ptrs_get? h1) ho1 ho2 (by omega) (by simp) fun S3 H3 => ?_
  have e1 : (ptrs m.bx).set c ([bo].set 0 u) = ptrs (m.bx.set c u) := ptrs_set _ _ _
  rw [e1] at H3
  have H3 : Cx B0 W S3 (mOwn x { s with mail := s.mail.set c l } { m with bx := m.bx.set c u } ++ R) (.pt b 0 [I kind, I (c : Int), I now] :: ro) := H3
  repeat (first|refine zA ?_|refine zB rfl ?_|refine zC ?_|refine zD ?_|refine zE rfl ?_|refine zF ?_|refine zG ?_|refine zH ?_|refine zI ?_|refine zJ ?_|refine zK ?_|refine zL rfl ?_|refine zN rfl ?_)
  refine wp_row (j := 9) H3 0 rfl rfl ?_
  refine wp_at (es := 4) (i := n) H3 2 rfl (by rw [lvs_len]; exact hn) fun id off hp => ?_
  repeat (first|refine zA ?_|refine zB rfl ?_|refine zC ?_|refine zD ?_|refine zE rfl ?_|refine zF ?_|refine zG ?_|refine zH ?_|refine zI ?_|refine zJ ?_|refine zK ?_|refine zL rfl ?_|refine zN rfl ?_)
  refine wp_atS H3 2 rfl hp (lvs_get? hy) (j := 1) rfl rfl (by omega) (by simp [Lv.cs]) fun S4 H4 => ?_
  have e2 : (lvs s.jobs).set n (y.cs.set 1 (I 3)) = lvs (s.jobs.set n { y with st := 3 }) := lvs_set s.jobs n { y with st := 3 }
  have H4 : Cx B0 W S4 (mOwn x (s.takes c y l) { m with bx := m.bx.set c u } ++ R) (.pt b 0 [I kind, I (c : Int), I now] :: ro) := by
    have e3 : y.job.toNat = n := by rw [hyj]; simp
    have H4 : Cx B0 W S4 ((mOwn x { s with mail := s.mail.set c l } { m with bx := m.bx.set c u } ++ R).set 2 (.sl m.vj 4 ((lvs s.jobs).set n (y.cs.set 1 (I 3))))) (.pt b 0 [I kind, I (c : Int), I now] :: ro) := H4
    rw [e2] at H4
    unfold Ms.takes
    rw [e3]
    exact H4
  have hy' : s.jobs[((n : Int)).toNat]? = some y := by simpa using hy
  refine wp_call (wpC_mono (balance_ok (wf.takes h2 hy') (by show (s.jobs.set _ _).length ≤ 12; rw [List.length_set]; exact hj) H4) fun _ S6 q => ?_)
  obtain ⟨s', hb, H6⟩ := q
  refine wp_ret ⟨rfl, _, _, s', { m with bx := m.bx.set c u }, rfl, .inr ⟨n, l, y, h2, hy', rfl, rfl, hb⟩, ?_, rfl, H6.tl⟩
  have : s'.mail = s.mail.set c l := by
    rcases hb with ⟨_, rfl⟩ | ⟨_, _, _, _, _, _, rfl⟩
    · rfl
    · split <;> rfl
  rw [this]
  simp [hbx]
end
end Go.Abs
namespace Go.Abs
open Go.Proofs
set_option maxRecDepth 100000
set_option linter.unusedVariables false
open Tsk (Tk tks tchk)
section
variable {M : Mach} {B0 S : AH} {W : List Nat} {own R : List Own} {ro : List Fct} {Q : Post} {k : AV → AC} {v : AV} {x : Nat} {s : Ms} {m : Mv}
theorem wp_paddr {len es id o i : Nat} (hi : i < len) (h : wp M (k (.ptr id (o + i * es))) S Q) : wp M (.op (.paddr len es (.ptr id o) (I (i : Int))) k) S Q := by
  refine wp_op (v := .ptr id (o + i * es)) ?_ h
  have h3 : idx? (I (i : Int)) len = some i := by
    show below i len = some i
    unfold below; rw [ble_t (by omega)]
  show pur (pPaddr len es (.ptr id o) (I (i : Int))) S = _
  unfold pPaddr
  simp only [h3]
  rfl
theorem wp_andU {a b : Nat} (ha : a < 18446744073709551616) (hb : b < 18446744073709551616) (h : wp M (k (U ((a &&& b : Nat) : Int))) S Q) : wp M (.op (.bin .and (U (a : Int)) (U (b : Int))) k) S Q := wp_op (v := U ((a &&& b : Nat) : Int)) (by
  show pur (bAnd (U (a : Int)) (U (b : Int))) S = _
  unfold bAnd
  simp only [int2, asInt, vInt, kindEq_refl]
  have e : (BitVec.ofInt IntKind.u64.bits (a : Int) &&& BitVec.ofInt IntKind.u64.bits (b : Int)).toNat = a &&& b := by
    rw [BitVec.toNat_and]
    have x : ∀ n : Nat, n < 18446744073709551616 → (BitVec.ofInt IntKind.u64.bits (n : Int)).toNat = n := by
      intro n hn
      show (BitVec.ofInt 64 (n : Int)).toNat = n
      rw [BitVec.ofInt_natCast, BitVec.toNat_ofNat]
      exact Nat.mod_eq_of_lt hn
    rw [x a ha, x b hb]
  have hor : a &&& b < 18446744073709551616 := Nat.lt_of_le_of_lt Nat.and_le_left ha
  show pur (some (AV.sc (.int .u64 (wrapF .u64 ((BitVec.ofInt IntKind.u64.bits (a : Int) &&& BitVec.ofInt IntKind.u64.bits (b : Int)).toNat : Nat))))) S = _
  rw [e, wrapU hor]; rfl) h
theorem takeW_ok {S : AH} {w f m : Nat} (hw : w < 18446744073709551616) (hf : f ≤ 64) (hm : m ≤ 48) : wpC EM (.fn (.func 81) [] []) [U (w : Int), .agg [I (f : Int), I (m : Int)]] S fun r S' => r = I ((w / 2 ^ f % 2 ^ m : Nat) : Int) ∧ Grows S S' := by
  refine wpC_fn (b := Try.a81) rfl rfl ?_
  have H : Cx S [] S [] [] := Cx.enter (by simp)
  unfold Try.a81 Try.a81x0
  refine wp_box H rfl fun b S1 H => ?_
  repeat (first|refine zA ?_|refine zB rfl ?_|refine zC ?_|refine zD ?_|refine zE rfl ?_|refine zF ?_|refine zG ?_|refine zH ?_|refine zI ?_|refine zJ ?_|refine zK ?_|refine zL rfl ?_|refine zN rfl ?_)
  refine wp_ld H (o := 0) (cs := [I (f : Int), I (m : Int)]) (by repeat (first | exact List.Mem.head _ | apply List.Mem.tail)) rfl ?_
  refine wp_shrU (s := f) (by omega) hf ?_
  repeat (first|refine zA ?_|refine zB rfl ?_|refine zC ?_|refine zD ?_|refine zE rfl ?_|refine zF ?_|refine zG ?_|refine zH ?_|refine zI ?_|refine zJ ?_|refine zK ?_|refine zL rfl ?_|refine zN rfl ?_)
  refine wp_ld H (o := 1) (cs := [I (f : Int), I (m : Int)]) (by repeat (first | exact List.Mem.head _ | apply List.Mem.tail)) rfl ?_
  have h48 : 2 ^ m ≤ 2 ^ 48 := Nat.pow_le_pow_right (by omega) hm
  have h1 : 1 ≤ 2 ^ m := Nat.one_le_two_pow
  refine wp_shlU (n := 1) (s := m) (by omega) (by omega) ?_
  refine wp_sub (c := ((2 ^ m - 1 : Nat) : Int)) ?_ ?_
  · have e : (((1 * 2 ^ m : Nat) : Int) - 1) = ((2 ^ m - 1 : Nat) : Int) := by omega
    rw [e]; exact wrapU (by omega)
  have hq : w / 2 ^ f < 18446744073709551616 := Nat.lt_of_le_of_lt (Nat.div_le_self _ _) hw
  refine wp_andU hq (by omega) ?_
  rw [Nat.and_two_pow_sub_one_eq_mod]
  have hr : w / 2 ^ f % 2 ^ m < 2 ^ m := Nat.mod_lt _ (by omega)
  refine wp_conv (c := ((w / 2 ^ f % 2 ^ m : Nat) : Int)) (wrap64 (by omega) (by omega)) ?_
  exact wp_ret ⟨rfl, rfl, H.grows⟩
theorem getKey_ok {S : AH} {w : Nat} (hw : w < 18374686479671623680) : wpC EM (.fn (.func 72) [] []) [U (w : Int)] S fun r S' => r = .tup [.agg [I ((w / 72057594037927936 : Nat) : Int), I ((w / 65536 % 1099511627776 : Nat) : Int), I ((w % 65536 : Nat) : Int)], I 0] ∧ Grows S S' := by
  refine wpC_fn (b := Try.a72) rfl rfl ?_
  have H : Cx S [] S [] [] := Cx.enter (by simp)
  unfold Try.a72 Try.a72x3 Try.a72x2 Try.a72x1 Try.a72x0
  refine wp_fin ?_
  refine wp_alloc H fun p S1 H => ?_
  refine wp_callV H keys_ok fun S2 H => ?_
  refine wp_alloc H fun q S3 H => ?_
  refine wp_store (v := .agg keyTab) H 0 rfl rfl rfl (Nat.le_of_ble_eq_true rfl) fun S4 H => ?_
  have H : Cx S [] S4 [.obj p (.row [I 0, I 0, I 0])] [.pt q 0 keyTab] := H.freeze (i := 0) (c := keyTab) rfl
  refine wp_paddr (i := 0) (by omega) ?_
  refine wp_ldn H (o := 0) (cs := keyTab) (by repeat (first | exact List.Mem.head _ | apply List.Mem.tail)) rfl ?_
  refine wp_paddr (i := 1) (by omega) ?_
  refine wp_ldn H (o := 2) (cs := keyTab) (by repeat (first | exact List.Mem.head _ | apply List.Mem.tail)) rfl ?_
  refine wp_paddr (i := 2) (by omega) ?_
  refine wp_ldn H (o := 4) (cs := keyTab) (by repeat (first | exact List.Mem.head _ | apply List.Mem.tail)) rfl ?_
  refine wp_alloc H fun u S5 H => ?_
  refine wp_callV H (takeW_ok (w := w) (f := 0) (m := 16) (by omega) (by omega) (by omega)) fun S6 H => ?_
  refine wp_chkn H (off := 0) (j := 2) (n := 2) (cs := keyTab) (by repeat (first | exact List.Mem.head _ | apply List.Mem.tail)) (Nat.le_of_ble_eq_true rfl) (l := [I 16, I 40]) rfl (fun x hx => by simp only [List.mem_cons, List.not_mem_nil, or_false] at hx; rcases hx with rfl | rfl <;> exact beq_num) ?_
  refine wp_chkn H (off := 0) (j := 4) (n := 2) (cs := keyTab) (by repeat (first | exact List.Mem.head _ | apply List.Mem.tail)) (Nat.le_of_ble_eq_true rfl) (l := [I 56, I 8]) rfl (fun x hx => by simp only [List.mem_cons, List.not_mem_nil, or_false] at hx; rcases hx with rfl | rfl <;> exact beq_num) ?_
  refine wp_callV H (takeW_ok (w := w) (f := 16) (m := 40) (by omega) (by omega) (by omega)) fun S7 H => ?_
  refine wp_chkn H (off := 0) (j := 4) (n := 2) (cs := keyTab) (by repeat (first | exact List.Mem.head _ | apply List.Mem.tail)) (Nat.le_of_ble_eq_true rfl) (l := [I 56, I 8]) rfl (fun x hx => by simp only [List.mem_cons, List.not_mem_nil, or_false] at hx; rcases hx with rfl | rfl <;> exact beq_num) ?_
  refine wp_callV H (takeW_ok (w := w) (f := 56) (m := 8) (by omega) (by omega) (by omega)) fun S8 H => ?_
  have e1 : w / 2 ^ 56 % 2 ^ 8 = w / 72057594037927936 := by omega
  have e2 : w / 2 ^ 16 % 2 ^ 40 = w / 65536 % 1099511627776 := by omega
  have e3 : w / 2 ^ 0 % 2 ^ 16 = w % 65536 := by omega
  rw [e1, e2, e3]
  generalize hP : w / 72057594037927936 = P
  generalize w / 65536 % 1099511627776 = Sq
  generalize w % 65536 = Rd
  refine wp_op (v := .agg [I (P : Int), I (Sq : Int), I (Rd : Int)]) rfl ?_
  refine wp_store (v := .agg [I (P : Int), I (Sq : Int), I (Rd : Int)]) H 0 rfl rfl rfl (Nat.le_of_ble_eq_true rfl) fun S9 H => ?_
  have H : Cx S [] S9 [.obj u (.row [I (P : Int), I (Sq : Int), I (Rd : Int)]), .obj p (.row [I 0, I 0, I 0])] [.pt q 0 keyTab] := H
  repeat (first|refine zA ?_|refine zB rfl ?_|refine zC ?_|refine zD ?_|refine zE rfl ?_|refine zF ?_|refine zG ?_|refine zH ?_|refine zI ?_|refine zJ ?_|refine zK ?_|refine zL rfl ?_|refine zN rfl ?_)
  refine wp_row (j := 0) H 0 rfl rfl ?_
  refine wp_gtr_f (by omega) ?_
  repeat (first|refine zA ?_|refine zB rfl ?_|refine zC ?_|refine zD ?_|refine zE rfl ?_|refine zF ?_|refine zG ?_|refine zH ?_|refine zI ?_|refine zJ ?_|refine zK ?_|refine zL rfl ?_|refine zN rfl ?_)
  refine wp_loadoa (n := 3) (off := 0) H 0 rfl (Nat.le_of_ble_eq_true rfl) ?_
  refine wp_store (v := .agg [I (P : Int), I (Sq : Int), I (Rd : Int)]) H 1 rfl rfl rfl (Nat.le_of_ble_eq_true rfl) fun S10 H => ?_
  have H : Cx S [] S10 [.obj u (.row [I (P : Int), I (Sq : Int), I (Rd : Int)]), .obj p (.row [I (P : Int), I (Sq : Int), I (Rd : Int)])] [.pt q 0 keyTab] := H
  refine wp_ret ⟨.inr rfl, ?_⟩
  refine wp_loadoa (n := 3) (off := 0) H 1 rfl (Nat.le_of_ble_eq_true rfl) ?_
  exact wp_ret ⟨rfl, rfl, H.grows⟩
theorem Ms.Wf.run {s : Ms} (h : s.Wf) {c : Nat} {i : Int} (hr : s.runs[c]? = some i) (hi : i ≠ -1) : ∃ n : Nat, i = n ∧ ∃ y, s.jobs[n]? = some y ∧ y.job = n := by
  have hb := h.rb _ (List.mem_of_getElem? hr)
  refine ⟨i.toNat, by omega, ?_⟩
  exact h.job (by omega)
theorem Ms.Wf.ends {s : Ms} (h : s.Wf) {c n : Nat} {y : Lv} (hy : s.jobs[n]? = some y) (hyj : y.job = n) (hf : s.free.length < s.jobs.length) : (s.ends c y).Wf := by
  have hn := (List.getElem?_eq_some_iff.1 hy).1
  have := ((h.setJob (i := n) (y := { y with st := 1, core := 0 }) hyj (h.kb y (List.mem_of_getElem? hy))).setRun (c := c) (i := -1) ⟨by omega, by omega⟩).setFree (l := y.job :: s.free) (by show s.free.length + 1 ≤ (s.jobs.set n _).length; rw [List.length_set]; omega) (fun i hi => by
    show 0 ≤ i ∧ i < ((s.jobs.set n _).length : Int)
    rw [List.length_set]
    rcases List.mem_cons.1 hi with rfl | hi
    · omega
    · exact h.fb i hi)
  unfold Ms.ends
  have e : y.job.toNat = n := by rw [hyj, Int.toNat_natCast]
  rw [e]
  exact this
set_option maxHeartbeats 1000000 in
theorem complete_ok {kind now : Int} {c : Nat} (wf : s.Wf) (hj : s.jobs.length ≤ 12) (hc : (c : Int) < s.su.cores) (hf : ∀ i, s.runs[c]? = some i → i ≠ -1 → s.free.length < s.jobs.length) (H : Cx B0 W S (mOwn x s m ++ R) ro) :
    wpC EM (.fn (.func 57) [] []) [.ptr x 0, Deal kind c now] S fun u S' => ∃ r e s' m', u = .tup [I r, I e] ∧ EndR s c r e s' ∧ m'.bx = m.bx ∧ m'.vt = m.vt ∧ Cx B0 W S' (mOwn x s' m' ++ R) ro := by
  refine wpC_fn (b := Try.a57) rfl rfl ?_
  unfold Try.a57 Try.a57x5 Try.a57x4 Try.a57x3 Try.a57x2 Try.a57x1 Try.a57x0
  have hrl := wf.rl
  have hcl : c < s.runs.length := by omega
  have hr : s.runs[c]? = some s.runs[c] := List.getElem?_eq_getElem hcl
  generalize s.runs[c] = i at hr
  refine wp_box H rfl fun b S1 H1 => ?_
  have H1 : Cx B0 W S1 (mOwn x s m ++ R) (.pt b 0 [I kind, I (c : Int), I now] :: ro) := H1
  repeat (first|refine zA ?_|refine zB rfl ?_|refine zC ?_|refine zD ?_|refine zE rfl ?_|refine zF ?_|refine zG ?_|refine zH ?_|refine zI ?_|refine zJ ?_|refine zK ?_|refine zL rfl ?_|refine zN rfl ?_)
  refine wp_row (j := 12) H1 0 rfl rfl ?_
  repeat (first|refine zA ?_|refine zB rfl ?_|refine zC ?_|refine zD ?_|refine zE rfl ?_|refine zF ?_|refine zG ?_|refine zH ?_|refine zI ?_|refine zJ ?_|refine zK ?_|refine zL rfl ?_|refine zN rfl ?_)
  refine wp_ld H1 (o := 1) (cs := [I kind, I (c : Int), I now]) (by repeat (first | exact List.Mem.head _ | apply List.Mem.tail)) rfl ?_
  refine wp_at (es := 1) H1 5 rfl (by rw [ints_len]; exact hcl) fun id off hp => ?_
  refine wp_atL0 H1 5 rfl hp (ints_get? hr) rfl ?_
  refine wp_eql (fun he => ?_) (fun hne => ?_)
  · subst he
    repeat (first|refine zA ?_|refine zB rfl ?_|refine zC ?_|refine zD ?_|refine zE rfl ?_|refine zF ?_|refine zG ?_|refine zH ?_|refine zI ?_|refine zJ ?_|refine zK ?_|refine zL rfl ?_|refine zN rfl ?_)
    exact wp_ret ⟨rfl, -1, 15, s, m, rfl, .inl ⟨hr, rfl, rfl, rfl⟩, rfl, rfl, H1.tl⟩
  have hf := hf i hr hne
  obtain ⟨n, rfl, y, hy, hyj⟩ := wf.run hr hne
  have hn := (List.getElem?_eq_some_iff.1 hy).1
  repeat (first|refine zA ?_|refine zB rfl ?_|refine zC ?_|refine zD ?_|refine zE rfl ?_|refine zF ?_|refine zG ?_|refine zH ?_|refine zI ?_|refine zJ ?_|refine zK ?_|refine zL rfl ?_|refine zN rfl ?_)
  refine wp_row (j := 9) H1 0 rfl rfl ?_
  repeat (first|refine zA ?_|refine zB rfl ?_|refine zC ?_|refine zD ?_|refine zE rfl ?_|refine zF ?_|refine zG ?_|refine zH ?_|refine zI ?_|refine zJ ?_|refine zK ?_|refine zL rfl ?_|refine zN rfl ?_)
  refine wp_row (j := 9) H1 0 rfl rfl ?_
  refine wp_at (es := 4) (i := n) H1 2 rfl (by rw [lvs_len]; exact hn) fun id off hp => ?_
  repeat (first|refine zA ?_|refine zB rfl ?_|refine zC ?_|refine zD ?_|refine zE rfl ?_|refine zF ?_|refine zG ?_|refine zH ?_|refine zI ?_|refine zJ ?_|refine zK ?_|refine zL rfl ?_|refine zN rfl ?_)
  refine wp_atS H1 2 rfl hp (lvs_get? hy) (j := 1) rfl rfl (by omega) (by simp [Lv.cs]) fun S3 H3 => ?_
  have e1 : (lvs s.jobs).set n (y.cs.set 1 (I 1)) = lvs (s.jobs.set n { y with st := 1 }) := lvs_set s.jobs n { y with st := 1 }
  rw [e1] at H3
  have H3 : Cx B0 W S3 (mOwn x { s with jobs := s.jobs.set n { y with st := 1 } } m ++ R) (.pt b 0 [I kind, I (c : Int), I now] :: ro) := H3
  refine wp_at (es := 4) (i := n) H3 2 rfl (by rw [lvs_len]; simpa using hn) fun id off hp => ?_
  repeat (first|refine zA ?_|refine zB rfl ?_|refine zC ?_|refine zD ?_|refine zE rfl ?_|refine zF ?_|refine zG ?_|refine zH ?_|refine zI ?_|refine zJ ?_|refine zK ?_|refine zL rfl ?_|refine zN rfl ?_)
  refine wp_atS H3 2 rfl hp (x := Lv.cs { y with st := 1 }) (lvs_get? (by rw [List.getElem?_set]; simp [hn])) (j := 2) rfl rfl (by omega) (by simp [Lv.cs]) fun S4 H4 => ?_
  have e2 : (lvs (s.jobs.set n { y with st := 1 })).set n ((Lv.cs { y with st := 1 }).set 2 (I 0)) = lvs (s.jobs.set n { y with st := 1, core := 0 }) := by
    have := lvs_set (s.jobs.set n { y with st := 1 }) n { y with st := 1, core := 0 }
    rw [List.set_set] at this
    exact this
  rw [e2] at H4
  have H4 : Cx B0 W S4 (mOwn x { s with jobs := s.jobs.set n { y with st := 1, core := 0 } } m ++ R) (.pt b 0 [I kind, I (c : Int), I now] :: ro) := H4
  repeat (first|refine zA ?_|refine zB rfl ?_|refine zC ?_|refine zD ?_|refine zE rfl ?_|refine zF ?_|refine zG ?_|refine zH ?_|refine zI ?_|refine zJ ?_|refine zK ?_|refine zL rfl ?_|refine zN rfl ?_)
  refine wp_row (j := 12) H4 0 rfl rfl ?_
  repeat (first|refine zA ?_|refine zB rfl ?_|refine zC ?_|refine zD ?_|refine zE rfl ?_|refine zF ?_|refine zG ?_|refine zH ?_|refine zI ?_|refine zJ ?_|refine zK ?_|refine zL rfl ?_|refine zN rfl ?_)
  refine wp_ld H4 (o := 1) (cs := [I kind, I (c : Int), I now]) (by repeat (first | exact List.Mem.head _ | apply List.Mem.tail)) rfl ?_
  refine wp_at (es := 1) (i := c) H4 5 rfl (by rw [ints_len]; exact hcl) fun id off hp => ?_
  refine wp_atS0 H4 5 rfl hp (ints_get? hr) rfl rfl (by omega) (by simp) fun S5 H5 => ?_
  have e3 : (ints s.runs).set c ([I (n : Int)].set 0 (I (-1))) = ints (s.runs.set c (-1)) := ints_set _ _ _
  rw [e3] at H5
  have H5 : Cx B0 W S5 (mOwn x { s with jobs := s.jobs.set n { y with st := 1, core := 0 }, runs := s.runs.set c (-1) } m ++ R) (.pt b 0 [I kind, I (c : Int), I now] :: ro) := H5
  have h64 := wf.j64
  repeat (first|refine zA ?_|refine zB rfl ?_|refine zC ?_|refine zD ?_|refine zE rfl ?_|refine zF ?_|refine zG ?_|refine zH ?_|refine zI ?_|refine zJ ?_|refine zK ?_|refine zL rfl ?_|refine zN rfl ?_)
  refine wp_row (j := 10) H5 0 rfl rfl ?_
  refine wp_insert (i := 0) (bytes := 8) H5 3 rfl (by omega) rfl rfl rfl (by rw [ints_len]; unfold maxBytes; show (s.free.length + 1) * 8 ≤ _; omega) (by rw [ints_len]; unfold maxLenN; show s.free.length + 1 ≤ _; omega) (fun _ => rfl) rfl rfl fun v1 S6 H6 => ?_
  have H6 : Cx B0 W S6 ((mOwn x { s with jobs := s.jobs.set n { y with st := 1, core := 0 }, runs := s.runs.set c (-1) } m ++ R).set 3 (.sl v1 1 (ints ((n : Int) :: s.free)))) (.pt b 0 [I kind, I (c : Int), I now] :: ro) := H6
  obtain ⟨ho1, ho2⟩ := slOk_odd1 (ownSl_ok (H6.oh (.sl v1 1 (ints ((n : Int) :: s.free))) (List.mem_of_getElem? (i := 3) rfl)))
  repeat (first|refine zA ?_|refine zB rfl ?_|refine zC ?_|refine zD ?_|refine zE rfl ?_|refine zF ?_|refine zG ?_|refine zH ?_|refine zI ?_|refine zJ ?_|refine zK ?_|refine zL rfl ?_|refine zN rfl ?_)
  refine wp_set1 (j := 10) H6 0 rfl (by simp [Ms.row, Su.cs]) ho1 ho2 fun S7 H7 => ?_
  have e4 : s.ends c y = { s with jobs := s.jobs.set n { y with st := 1, core := 0 }, runs := s.runs.set c (-1), free := (n : Int) :: s.free } := by
    unfold Ms.ends
    rw [hyj, Int.toNat_natCast]
  have H7 : Cx B0 W S7 (mOwn x (s.ends c y) { m with vf := v1 } ++ R) (.pt b 0 [I kind, I (c : Int), I now] :: ro) := by rw [e4]; exact H7
  refine wp_call (wpC_mono (balance_ok (wf.ends hy hyj hf) (by show (s.jobs.set _ _).length ≤ 12; rw [List.length_set]; exact hj) H7) fun _ S6 q => ?_)
  obtain ⟨s', hb, H8⟩ := q
  exact wp_ret ⟨rfl, _, _, s', { m with vf := v1 }, rfl, .inr ⟨n, y, hr, hne, by simpa using hy, rfl, rfl, hb⟩, rfl, rfl, H8.tl⟩
end
end Go.Abs
namespace Go.Abs
open Go.Proofs
set_option maxRecDepth 100000
set_option linter.unusedVariables false
open Tsk (Tk tks tchk tks_len tks_get)
theorem beq_sl {S : AH} {v : AV} {es : Nat} {L : List (List AV)} (hv : slOk S v es L) : AV.beq v v = true := by
  rcases hv with ⟨rfl, _⟩ | ⟨id, off, c, (⟨cap, _, _, rfl⟩ | ⟨cap, _, _, rfl⟩), _⟩
  · rfl
  · show (Nat.beq id id && Nat.beq off off && Nat.beq L.length L.length && Nat.beq cap cap) = true
    simp only [Nat.beq_refl, Bool.and_self]
  · show (Nat.beq id id && Nat.beq off off && Nat.beq L.length L.length && Nat.beq cap cap && Nat.beq es es) = true
    simp only [Nat.beq_refl, Bool.and_self]
/-- a job is given up -/
def Ms.gives (s : Ms) (c : Nat) (y : Lv) : Ms := { s with flags := s.flags.set c false, jobs := s.jobs.set y.job.toNat ⟨y.job, 3, 0, y.key + 1⟩, runs := s.runs.set c (-1) }
def Ms.drops (s : Ms) (c : Nat) : Ms := { s with flags := s.flags.set c false }
def ThenPick (s : Ms) (c : Nat) (r e : Int) (s' : Ms) : Prop := ∃ r0 e0, PickR s c r0 e0 s' ∧ if e0 = 15 then r = -1 ∧ e = 0 else r = r0 ∧ e = e0
def ServeR (s : Ms) (c : Nat) (r e : Int) (s' : Ms) : Prop :=
  (s.flags[c]? = some false ∧ r = -1 ∧ e = 15 ∧ s' = s) ∨
  (s.flags[c]? = some true ∧ s.runs[c]? = some (-1) ∧ ThenPick (s.drops c) c r e s') ∨
  ∃ i y, s.flags[c]? = some true ∧ s.runs[c]? = some i ∧ i ≠ -1 ∧ s.jobs[i.toNat]? = some y ∧
    ((y.key % 65536 = 65535 ∧ r = -1 ∧ e = 12 ∧ s' = s.drops c) ∨ (y.key % 65536 ≠ 65535 ∧ ThenPick (s.gives c y) c r e s'))
theorem Ms.Wf.gives {s : Ms} (h : s.Wf) {c n : Nat} {y : Lv} (hy : s.jobs[n]? = some y) (hyj : y.job = n) (hk : y.key % 65536 ≠ 65535) : (s.gives c y).Wf := by
  have hb := h.kb y (List.mem_of_getElem? hy)
  have := ((h.setFlag (c := c) (b := false)).setJob (i := n) (y := ⟨y.job, 3, 0, y.key + 1⟩) hyj ⟨by show 0 ≤ y.key + 1; omega, by show y.key + 1 < 18374686479671623680; omega⟩).setRun (c := c) (i := -1) ⟨by omega, by omega⟩
  unfold Ms.gives
  have e : y.job.toNat = n := by rw [hyj, Int.toNat_natCast]
  rw [e]
  exact this
section
variable {B0 S : AH} {W : List Nat} {own R : List Own} {ro : List Fct} {Q : Post} {k : AV → AC} {v : AV} {x : Nat} {s : Ms} {m : Mv}
set_option maxHeartbeats 1000000 in
theorem serve_ok {kind now : Int} {c : Nat} (wf : s.Wf) (hj : s.jobs.length ≤ 12) (hc : (c : Int) < s.su.cores) (H : Cx B0 W S (mOwn x s m ++ R) ro) :
    wpC EM (.fn (.func 56) [] []) [.ptr x 0, Deal kind c now] S fun u S' => ∃ r e s', u = .tup [I r, I e] ∧ ServeR s c r e s' ∧ Cx B0 W S' (mOwn x s' m ++ R) ro := by
  refine wpC_fn (b := Try.a56) rfl rfl ?_
  unfold Try.a56 Try.a56x9 Try.a56x8 Try.a56x7 Try.a56x6 Try.a56x5 Try.a56x4 Try.a56x3 Try.a56x2 Try.a56x1 Try.a56x0
  have hrl := wf.rl
  have hgl := wf.gl
  have hcl : c < s.runs.length := by omega
  have hcg : c < s.flags.length := by omega
  have hr : s.runs[c]? = some s.runs[c] := List.getElem?_eq_getElem hcl
  generalize s.runs[c] = i at hr
  have hg : s.flags[c]? = some s.flags[c] := List.getElem?_eq_getElem hcg
  have hg1 : (bls s.flags)[c]? = some [B s.flags[c]] := bls_get hcg
  generalize s.flags[c] = g at hg hg1
  refine wp_box H rfl fun b S1 H1 => ?_
  have H1 : Cx B0 W S1 (mOwn x s m ++ R) (.pt b 0 [I kind, I (c : Int), I now] :: ro) := H1
  repeat (first|refine zA ?_|refine zB rfl ?_|refine zC ?_|refine zD ?_|refine zE rfl ?_|refine zF ?_|refine zG ?_|refine zH ?_|refine zI ?_|refine zJ ?_|refine zK ?_|refine zL rfl ?_|refine zN rfl ?_)
  refine wp_ld H1 (o := 1) (cs := [I kind, I (c : Int), I now]) (by repeat (first | exact List.Mem.head _ | apply List.Mem.tail)) rfl ?_
  repeat (first|refine zA ?_|refine zB rfl ?_|refine zC ?_|refine zD ?_|refine zE rfl ?_|refine zF ?_|refine zG ?_|refine zH ?_|refine zI ?_|refine zJ ?_|refine zK ?_|refine zL rfl ?_|refine zN rfl ?_)
  refine wp_row (j := 13) H1 0 rfl rfl ?_
  refine wp_at (es := 1) H1 6 rfl (by rw [bls_len]; exact hcg) fun id off hp => ?_
  refine wp_atL0 H1 6 rfl hp hg1 rfl ?_
  cases g with
  | false =>
    refine wp_notF ?_
    repeat (first|refine zA ?_|refine zB rfl ?_|refine zC ?_|refine zD ?_|refine zE rfl ?_|refine zF ?_|refine zG ?_|refine zH ?_|refine zI ?_|refine zJ ?_|refine zK ?_|refine zL rfl ?_|refine zN rfl ?_)
    exact wp_ret ⟨rfl, -1, 15, s, rfl, .inl ⟨hg, rfl, rfl, rfl⟩, H1.tl⟩
  | true =>
  refine wp_notT ?_
  repeat (first|refine zA ?_|refine zB rfl ?_|refine zC ?_|refine zD ?_|refine zE rfl ?_|refine zF ?_|refine zG ?_|refine zH ?_|refine zI ?_|refine zJ ?_|refine zK ?_|refine zL rfl ?_|refine zN rfl ?_)
  refine wp_row (j := 13) H1 0 rfl rfl ?_
  refine wp_at (es := 1) H1 6 rfl (by rw [bls_len]; exact hcg) fun id off hp => ?_
  refine wp_atS0 H1 6 rfl hp hg1 rfl rfl (by omega) (by simp) fun S2 H2 => ?_
  have e1 : (bls s.flags).set c ([B true].set 0 (B false)) = bls (s.flags.set c false) := bls_set ..
  rw [e1] at H2
  have H2 : Cx B0 W S2 (mOwn x (s.drops c) m ++ R) (.pt b 0 [I kind, I (c : Int), I now] :: ro) := H2
  -- then it picks
  have pk : ∀ {S3 : AH} {s1 : Ms}, s1.Wf → s1.jobs.length ≤ 12 → s1.su = s.su → Cx B0 W S3 (mOwn x s1 m ++ R) (.pt b 0 [I kind, I (c : Int), I now] :: ro) →
      wp EM (Try.a56x6 ([] ++ ([.ptr x 0, Deal kind c now] ++ [])) (.ptr b 0)) S3 fun t vs S' => t = .ret ∧ ∃ r e s', oneOf vs = .tup [I r, I e] ∧ ThenPick s1 c r e s' ∧ Cx B0 W S' (mOwn x s' m ++ R) ro := by
    intro S3 s1 wf1 hj1 hs1 H3
    unfold Try.a56x6
    refine wp_ldn H3 (o := 0) (n := 3) (cs := [I kind, I (c : Int), I now]) (by repeat (first | exact List.Mem.head _ | apply List.Mem.tail)) rfl ?_
    show wp EM (.call _ [.ptr x 0, Deal kind c now] _) _ _
    refine wp_call (wpC_mono (pick_ok' wf1 hj1 (by rw [hs1]; exact hc) H3) fun u S4 q => ?_)
    obtain ⟨r, e, s', rfl, hp, H4⟩ := q
    repeat (first|refine zA ?_|refine zB rfl ?_|refine zC ?_|refine zD ?_|refine zE rfl ?_|refine zF ?_|refine zG ?_|refine zH ?_|refine zI ?_|refine zJ ?_|refine zK ?_|refine zL rfl ?_|refine zN rfl ?_)
    refine wp_eql (fun he => ?_) (fun he => ?_)
    · repeat (first|refine zA ?_|refine zB rfl ?_|refine zC ?_|refine zD ?_|refine zE rfl ?_|refine zF ?_|refine zG ?_|refine zH ?_|refine zI ?_|refine zJ ?_|refine zK ?_|refine zL rfl ?_|refine zN rfl ?_)
      exact wp_ret ⟨rfl, -1, 0, s', rfl, ⟨r, e, hp, by rw [if_pos he]; exact ⟨rfl, rfl⟩⟩, H4.tl⟩
    · repeat (first|refine zA ?_|refine zB rfl ?_|refine zC ?_|refine zD ?_|refine zE rfl ?_|refine zF ?_|refine zG ?_|refine zH ?_|refine zI ?_|refine zJ ?_|refine zK ?_|refine zL rfl ?_|refine zN rfl ?_)
      exact wp_ret ⟨rfl, r, e, s', rfl, ⟨r, e, hp, by rw [if_neg he]; exact ⟨rfl, rfl⟩⟩, H4.tl⟩
  unfold Try.a56x6 at pk
  repeat (first|refine zA ?_|refine zB rfl ?_|refine zC ?_|refine zD ?_|refine zE rfl ?_|refine zF ?_|refine zG ?_|refine zH ?_|refine zI ?_|refine zJ ?_|refine zK ?_|refine zL rfl ?_|refine zN rfl ?_)
  refine wp_row (j := 12) H2 0 rfl rfl ?_
  refine wp_at (es := 1) H2 5 rfl (by rw [ints_len]; exact hcl) fun id off hp => ?_
  refine wp_atL0 H2 5 rfl hp (ints_get? hr) rfl ?_
  refine wp_neq (fun hne => ?_) (fun he => ?_)
  · obtain ⟨n, rfl, y, hy, hyj⟩ := wf.run hr hne
    have hn := (List.getElem?_eq_some_iff.1 hy).1
    have hkb := wf.kb y (List.mem_of_getElem? hy)
    refine wp_bind ?_
    repeat (first|refine zA ?_|refine zB rfl ?_|refine zC ?_|refine zD ?_|refine zE rfl ?_|refine zF ?_|refine zG ?_|refine zH ?_|refine zI ?_|refine zJ ?_|refine zK ?_|refine zL rfl ?_|refine zN rfl ?_)
    refine wp_row (j := 9) H2 0 rfl rfl ?_
    refine wp_at (es := 4) (i := n) H2 2 rfl (by rw [lvs_len]; exact hn) fun id off hp => ?_
    repeat (first|refine zA ?_|refine zB rfl ?_|refine zC ?_|refine zD ?_|refine zE rfl ?_|refine zF ?_|refine zG ?_|refine zH ?_|refine zI ?_|refine zJ ?_|refine zK ?_|refine zL rfl ?_|refine zN rfl ?_)
    refine wp_atL H2 2 rfl hp (lvs_get? hy) (j := 3) rfl ?_
    obtain ⟨w, hw⟩ : ∃ w : Nat, y.key = (w : Int) := ⟨y.key.toNat, by omega⟩
    rw [hw]
    refine wp_callV H2 (getKey_ok (w := w) (by omega)) fun S3 H3 => ?_
    repeat (first|refine zA ?_|refine zB rfl ?_|refine zC ?_|refine zD ?_|refine zE rfl ?_|refine zF ?_|refine zG ?_|refine zH ?_|refine zI ?_|refine zJ ?_|refine zK ?_|refine zL rfl ?_|refine zN rfl ?_)
    refine wp_alloc H3 fun q S4 H4 => ?_
    refine wp_store H4 0 rfl rfl rfl (Nat.le_of_ble_eq_true rfl) fun S5 H5 => ?_
    have H5 : Cx B0 W S5 (.obj q (.row [I ((w / 72057594037927936 : Nat) : Int), I ((w / 65536 % 1099511627776 : Nat) : Int), I ((w % 65536 : Nat) : Int)]) :: (mOwn x (s.drops c) m ++ R)) (.pt b 0 [I kind, I (c : Int), I now] :: ro) := H5
    repeat (first|refine zA ?_|refine zB rfl ?_|refine zC ?_|refine zD ?_|refine zE rfl ?_|refine zF ?_|refine zG ?_|refine zH ?_|refine zI ?_|refine zJ ?_|refine zK ?_|refine zL rfl ?_|refine zN rfl ?_)
    refine wp_row (j := 2) H5 0 rfl rfl ?_
    refine wp_add64 (by omega) (by omega) ?_
    repeat (first|refine zA ?_|refine zB rfl ?_|refine zC ?_|refine zD ?_|refine zE rfl ?_|refine zF ?_|refine zG ?_|refine zH ?_|refine zI ?_|refine zJ ?_|refine zK ?_|refine zL rfl ?_|refine zN rfl ?_)
    refine wp_set1 (j := 2) H5 0 rfl (by simp) rfl rfl fun S6 H6 => ?_
    have H6 : Cx B0 W S6 (.obj q (.row [I ((w / 72057594037927936 : Nat) : Int), I ((w / 65536 % 1099511627776 : Nat) : Int), I (((w % 65536 : Nat) : Int) + 1)]) :: (mOwn x (s.drops c) m ++ R)) (.pt b 0 [I kind, I (c : Int), I now] :: ro) := H6
    refine wp_loadoa (n := 3) (off := 0) H6 0 rfl (Nat.le_of_ble_eq_true rfl) ?_
    refine wp_callV H6 putKey_ok fun S7 H7 => ?_
    have H7 := H7.dropAt 0
    have H7 : Cx B0 W S7 (mOwn x (s.drops c) m ++ R) (.pt b 0 [I kind, I (c : Int), I now] :: ro) := H7
    unfold putk
    have hy' : s.jobs[((n : Int)).toNat]? = some y := by simpa using hy
    by_cases hk : w % 65536 = 65535
    · rw [if_neg (by unfold kok; omega)]
      repeat (first|refine zA ?_|refine zB rfl ?_|refine zC ?_|refine zD ?_|refine zE rfl ?_|refine zF ?_|refine zG ?_|refine zH ?_|refine zI ?_|refine zJ ?_|refine zK ?_|refine zL rfl ?_|refine zN rfl ?_)
      refine wp_neq_t (by omega) ?_
      repeat (first|refine zA ?_|refine zB rfl ?_|refine zC ?_|refine zD ?_|refine zE rfl ?_|refine zF ?_|refine zG ?_|refine zH ?_|refine zI ?_|refine zJ ?_|refine zK ?_|refine zL rfl ?_|refine zN rfl ?_)
      exact wp_ret ⟨rfl, -1, 12, s.drops c, rfl, .inr (.inr ⟨n, y, hg, hr, hne, hy', .inl ⟨by omega, rfl, rfl, rfl⟩⟩), H7.tl⟩
    · rw [if_pos (by unfold kok; omega)]
      repeat (first|refine zA ?_|refine zB rfl ?_|refine zC ?_|refine zD ?_|refine zE rfl ?_|refine zF ?_|refine zG ?_|refine zH ?_|refine zI ?_|refine zJ ?_|refine zK ?_|refine zL rfl ?_|refine zN rfl ?_)
      refine wp_neq_f rfl ?_
      repeat (first|refine zA ?_|refine zB rfl ?_|refine zC ?_|refine zD ?_|refine zE rfl ?_|refine zF ?_|refine zG ?_|refine zH ?_|refine zI ?_|refine zJ ?_|refine zK ?_|refine zL rfl ?_|refine zN rfl ?_)
      refine wp_row (j := 9) H7 0 rfl rfl ?_
      have ek : kword ((w / 72057594037927936 : Nat) : Int) ((w / 65536 % 1099511627776 : Nat) : Int) (((w % 65536 : Nat) : Int) + 1) = y.key + 1 := by unfold kword; omega
      rw [ek]
      refine wp_op (v := .agg (Lv.cs ⟨n, 3, 0, y.key + 1⟩)) rfl ?_
      refine wp_at (es := 4) (i := n) H7 2 rfl (by rw [lvs_len]; exact hn) fun id off hp => ?_
      refine wp_atSn H7 2 rfl hp (lvs_get? hy) rfl rfl fun S8 H8 => ?_
      have e2 : (lvs s.jobs).set n (Lv.cs ⟨n, 3, 0, y.key + 1⟩) = lvs (s.jobs.set n ⟨n, 3, 0, y.key + 1⟩) := lvs_set s.jobs n ⟨n, 3, 0, y.key + 1⟩
      have H8 : Cx B0 W S8 ((mOwn x (s.drops c) m ++ R).set 2 (.sl m.vj 4 ((lvs s.jobs).set n (Lv.cs ⟨n, 3, 0, y.key + 1⟩)))) (.pt b 0 [I kind, I (c : Int), I now] :: ro) := H8
      rw [e2] at H8
      have H8 : Cx B0 W S8 (mOwn x { s.drops c with jobs := s.jobs.set n ⟨n, 3, 0, y.key + 1⟩ } m ++ R) (.pt b 0 [I kind, I (c : Int), I now] :: ro) := H8
      repeat (first|refine zA ?_|refine zB rfl ?_|refine zC ?_|refine zD ?_|refine zE rfl ?_|refine zF ?_|refine zG ?_|refine zH ?_|refine zI ?_|refine zJ ?_|refine zK ?_|refine zL rfl ?_|refine zN rfl ?_)
      refine wp_row (j := 12) H8 0 rfl rfl ?_
      refine wp_at (es := 1) (i := c) H8 5 rfl (by rw [ints_len]; exact hcl) fun id off hp => ?_
      refine wp_atS0 H8 5 rfl hp (ints_get? hr) rfl rfl (by omega) (by simp) fun S9 H9 => ?_
      have e3 : (ints s.runs).set c ([I (n : Int)].set 0 (I (-1))) = ints (s.runs.set c (-1)) := ints_set _ _ _
      have H9 : Cx B0 W S9 ((mOwn x { s.drops c with jobs := s.jobs.set n ⟨n, 3, 0, y.key + 1⟩ } m ++ R).set 5 (.sl m.vr 1 ((ints s.runs).set c ([I (n : Int)].set 0 (I (-1)))))) (.pt b 0 [I kind, I (c : Int), I now] :: ro) := H9
      rw [e3] at H9
      have e4 : s.gives c y = { s.drops c with jobs := s.jobs.set n ⟨n, 3, 0, y.key + 1⟩, runs := s.runs.set c (-1) } := by
        unfold Ms.gives
        rw [hyj, Int.toNat_natCast]; rfl
      have H9 : Cx B0 W S9 (mOwn x (s.gives c y) m ++ R) (.pt b 0 [I kind, I (c : Int), I now] :: ro) := by rw [e4]; exact H9
      refine wp_ret ?_
      show wp EM _ _ _
      refine wp_mono (pk (wf.gives hy hyj (by omega)) (by rw [e4]; show (s.jobs.set n _).length ≤ 12; rw [List.length_set]; exact hj) rfl H9) fun t vs S' q => ?_
      obtain ⟨h1, r, e, s', h2, h3, h4⟩ := q
      exact ⟨h1, r, e, s', h2, .inr (.inr ⟨n, y, hg, hr, hne, hy', .inr ⟨by omega, h3⟩⟩), h4⟩
  · subst he
    refine wp_bind ?_
    repeat (first|refine zA ?_|refine zB rfl ?_|refine zC ?_|refine zD ?_|refine zE rfl ?_|refine zF ?_|refine zG ?_|refine zH ?_|refine zI ?_|refine zJ ?_|refine zK ?_|refine zL rfl ?_|refine zN rfl ?_)
    refine wp_ret ?_
    show wp EM _ _ _
    refine wp_mono (pk wf.setFlag hj rfl H2) fun t vs S' q => ?_
    obtain ⟨h1, r, e, s', h2, h3, h4⟩ := q
    exact ⟨h1, r, e, s', h2, .inr (.inl ⟨hg, hr, h3⟩), h4⟩
end
end Go.Abs
namespace Go.Abs
open Go.Proofs
set_option maxRecDepth 100000
set_option linter.unusedVariables false
open Tsk (Tk tks tchk tks_len tks_get)
/-- a job is released -/
def Ms.rel (s : Ms) (i : Int) (f : List Int) (h : Nat) (box : List Int) (key : Int) : Ms := { s with free := f, jobs := s.jobs.set i.toNat ⟨i, 2, 0, key⟩, mail := s.mail.set h (box ++ [i]) }
def RelR (s : Ms) (t : Nat) (now r e : Int) (s' : Ms) : Prop := ∃ (last : Int) (a : Tk), s.passed[t]? = some last ∧ s.T[t]? = some a ∧
  ((last ≠ -1 ∧ (now < last ∨ now - last < a.every) ∧ r = -1 ∧ e = 13 ∧ s' = s) ∨
  (¬ (last ≠ -1 ∧ (now < last ∨ now - last < a.every)) ∧
    ((s.free = [] ∧ r = -1 ∧ e = 7 ∧ s' = { s with passed := s.passed.set t now }) ∨
    ∃ i f, s.free = i :: f ∧
      ((1099511627775 < s.seq + 1 ∧ r = -1 ∧ e = 12 ∧ s' = { s with passed := s.passed.set t now, seq := s.seq + 1 }) ∨
      (s.seq + 1 ≤ 1099511627775 ∧ ∃ (h : Nat) (box : List Int), (h : Int) = (t : Int) % s.su.cores ∧ s.mail[h]? = some box ∧
        (((box.length : Int) = s.su.room ∧ r = -1 ∧ e = 7 ∧ s' = { s with passed := s.passed.set t now, seq := s.seq + 1 }) ∨
        ((box.length : Int) ≠ s.su.room ∧ r = i ∧ e = 0 ∧ s' = Ms.rel { s with passed := s.passed.set t now, seq := s.seq + 1 } i f h box (kword a.prio (s.seq + 1) 0))))))))
theorem tone_bd {x : Tk} (h : Tsk.tone x = 0) : 0 ≤ x.prio ∧ x.prio ≤ 254 ∧ 0 ≤ x.every ∧ x.every ≤ 1099511627776 := by
  unfold Tsk.tone at h
  split at h
  · cases h
  · split at h
    · cases h
    · omega
theorem tfirst_all : ∀ {l : List Tk}, Tsk.tfirst l = 0 → ∀ x ∈ l, Tsk.tone x = 0
  | [], _, x, hx => by cases hx
  | y :: l, h, x, hx => by
    unfold Tsk.tfirst at h
    by_cases hy : Tsk.tone y = 0
    · rw [if_pos hy] at h
      rcases List.mem_cons.1 hx with rfl | hx
      · exact hy
      · exact tfirst_all h x hx
    · rw [if_neg hy] at h; exact absurd h hy
theorem tchk_all {l : List Tk} (h : tchk l = 0) : l.length ≤ 32 ∧ ∀ x ∈ l, Tsk.tone x = 0 := by
  unfold Tsk.tchk at h
  split at h
  · cases h
  · exact ⟨by omega, tfirst_all h⟩
section
variable {B0 S : AH} {W : List Nat} {own R : List Own} {ro : List Fct} {Q : Post} {k : AV → AC} {v : AV} {x : Nat} {s : Ms} {m : Mv}
theorem homeM_ok {S : AH} {t : Nat} {cores : Int} (h1 : 1 ≤ cores) (h2 : cores ≤ 64) : wpC EM (.fn (.func 68) [] []) [I (t : Int), I cores] S fun r S' => r = I ((t : Int) % cores) ∧ Grows S S' := by
  refine wpC_fn (b := Try.a68) rfl rfl ?_
  unfold Try.a68 Try.a68x0
  refine wp_lss_f (by omega) ?_
  repeat (first|refine zA ?_|refine zB rfl ?_|refine zC ?_|refine zD ?_|refine zE rfl ?_|refine zF ?_|refine zG ?_|refine zH ?_|refine zI ?_|refine zJ ?_|refine zK ?_|refine zL rfl ?_|refine zN rfl ?_)
  refine wp_lss_f (by omega) ?_
  repeat (first|refine zA ?_|refine zB rfl ?_|refine zC ?_|refine zD ?_|refine zE rfl ?_|refine zF ?_|refine zG ?_|refine zH ?_|refine zI ?_|refine zJ ?_|refine zK ?_|refine zL rfl ?_|refine zN rfl ?_)
  refine wp_gtr_f (by omega) ?_
  repeat (first|refine zA ?_|refine zB rfl ?_|refine zC ?_|refine zD ?_|refine zE rfl ?_|refine zF ?_|refine zG ?_|refine zH ?_|refine zI ?_|refine zJ ?_|refine zK ?_|refine zL rfl ?_|refine zN rfl ?_)
  refine wp_rem (by omega) ?_
  refine wp_ret ⟨rfl, ?_, Grows.refl _⟩
  rw [Int.tmod_eq_emod_of_nonneg (by omega)]; rfl
set_option maxHeartbeats 2000000 in
theorem release_ok {kind now : Int} {t : Nat} (wf : s.Wf) (hbx : m.bx.length = s.mail.length) (hv : Fct.sl m.vt 4 (tks s.T) ∈ ro) (ht : t < s.T.length) (hnow : 0 ≤ now ∧ now ≤ 1099511627776) (hseq : s.seq < 1152921504606846976) (H : Cx B0 W S (mOwn x s m ++ R) ro) :
    wpC EM (.fn (.func 53) [] []) [.ptr x 0, Deal kind t now] S fun u S' => ∃ r e s' m', u = .tup [I r, I e] ∧ RelR s t now r e s' ∧ m'.bx.length = s'.mail.length ∧ m'.vt = m.vt ∧ Cx B0 W S' (mOwn x s' m' ++ R) ro := by
  refine wpC_fn (b := Try.a53) rfl rfl ?_
  unfold Try.a53 Try.a53x17 Try.a53x16 Try.a53x15 Try.a53x14 Try.a53x13 Try.a53x12 Try.a53x11 Try.a53x10 Try.a53x9 Try.a53x8 Try.a53x7 Try.a53x6 Try.a53x5 Try.a53x4 Try.a53x3 Try.a53x2 Try.a53x1 Try.a53x0
  have hpl := wf.pl
  have htp : t < s.passed.length := by omega
  have hl : s.passed[t]? = some s.passed[t] := List.getElem?_eq_getElem htp
  generalize s.passed[t] = last at hl
  have hlb := wf.pb _ (List.mem_of_getElem? hl)
  have hT : s.T[t]? = some s.T[t] := List.getElem?_eq_getElem ht
  have hTc : (tks s.T)[t]? = some (s.T[t]).cs := tks_get ht
  generalize s.T[t] = a at hT hTc
  have hab := tone_bd ((tchk_all wf.chk).2 a (List.mem_of_getElem? hT))
  refine wp_box H rfl fun b S1 H1 => ?_
  have H1 : Cx B0 W S1 (mOwn x s m ++ R) (.pt b 0 [I kind, I (t : Int), I now] :: ro) := H1
  have hv1 : ∀ {φ : Fct}, Fct.sl m.vt 4 (tks s.T) ∈ φ :: ro := List.mem_cons_of_mem _ hv
  repeat (first|refine zA ?_|refine zB rfl ?_|refine zC ?_|refine zD ?_|refine zE rfl ?_|refine zF ?_|refine zG ?_|refine zH ?_|refine zI ?_|refine zJ ?_|refine zK ?_|refine zL rfl ?_|refine zN rfl ?_)
  refine wp_ld H1 (o := 1) (cs := [I kind, I (t : Int), I now]) (by repeat (first | exact List.Mem.head _ | apply List.Mem.tail)) rfl ?_
  repeat (first|refine zA ?_|refine zB rfl ?_|refine zC ?_|refine zD ?_|refine zE rfl ?_|refine zF ?_|refine zG ?_|refine zH ?_|refine zI ?_|refine zJ ?_|refine zK ?_|refine zL rfl ?_|refine zN rfl ?_)
  refine wp_row (j := 7) H1 0 rfl rfl ?_
  refine wp_at (es := 1) H1 1 rfl (by rw [ints_len]; exact htp) fun id off hp => ?_
  refine wp_atL0 H1 1 rfl hp (ints_get? hl) rfl ?_
  -- it is too soon
  have soon : ∀ {S2 : AH}, last ≠ -1 → (now < last ∨ now - last < a.every) → Cx B0 W S2 (mOwn x s m ++ R) ro → (Tag.ret = .ret ∧ ∃ r e s' m', oneOf [I (-1), I 13] = AV.tup [I r, I e] ∧ RelR s t now r e s' ∧ m'.bx.length = s'.mail.length ∧ m'.vt = m.vt ∧ Cx B0 W S2 (mOwn x s' m' ++ R) ro) := fun h1 h2 H => ⟨rfl, -1, 13, s, m, rfl, ⟨last, a, hl, hT, .inl ⟨h1, h2, rfl, rfl, rfl⟩⟩, hbx, rfl, H⟩
  -- it is not
  have rest : ∀ {S2 : AH} {ro2 : List Fct}, ¬ (last ≠ -1 ∧ (now < last ∨ now - last < a.every)) → (∀ φ ∈ ro, φ ∈ ro2) → Fct.pt b 0 [I kind, I (t : Int), I now] ∈ ro2 → Cx B0 W S2 (mOwn x s m ++ R) ro2 → wp EM (Try.a53x13 ([] ++ ([.ptr x 0, Deal kind t now] ++ [])) (.ptr b 0) (I (t : Int)) (B false)) S2 fun tg vs S' => tg = .ret ∧ ∃ r e s' m', oneOf vs = .tup [I r, I e] ∧ RelR s t now r e s' ∧ m'.bx.length = s'.mail.length ∧ m'.vt = m.vt ∧ Cx B0 W S' (mOwn x s' m' ++ R) ro := by
    clear H1 H hp
    intro S2 ro2 hns hro hb2 H2
    unfold Try.a53x13 Try.a53x12 Try.a53x11 Try.a53x10 Try.a53x9 Try.a53x8 Try.a53x7 Try.a53x6 Try.a53x5 Try.a53x4 Try.a53x3 Try.a53x2 Try.a53x1 Try.a53x0
    repeat (first|refine zA ?_|refine zB rfl ?_|refine zC ?_|refine zD ?_|refine zE rfl ?_|refine zF ?_|refine zG ?_|refine zH ?_|refine zI ?_|refine zJ ?_|refine zK ?_|refine zL rfl ?_|refine zN rfl ?_)
    refine wp_row (j := 7) H2 0 rfl rfl ?_
    repeat (first|refine zA ?_|refine zB rfl ?_|refine zC ?_|refine zD ?_|refine zE rfl ?_|refine zF ?_|refine zG ?_|refine zH ?_|refine zI ?_|refine zJ ?_|refine zK ?_|refine zL rfl ?_|refine zN rfl ?_)
    refine wp_ld H2 (o := 2) (cs := [I kind, I (t : Int), I now]) hb2 rfl ?_
    refine wp_at (es := 1) H2 1 rfl (by rw [ints_len]; exact htp) fun id off hp => ?_
    refine wp_atS0 H2 1 rfl hp (ints_get? hl) rfl rfl (by omega) (by simp) fun S3 H3 => ?_
    have e1 : (ints s.passed).set t ([I last].set 0 (I now)) = ints (s.passed.set t now) := ints_set _ _ _
    rw [e1] at H3
    have H3 : Cx B0 W S3 (mOwn x { s with passed := s.passed.set t now } m ++ R) ro2 := H3
    repeat (first|refine zA ?_|refine zB rfl ?_|refine zC ?_|refine zD ?_|refine zE rfl ?_|refine zF ?_|refine zG ?_|refine zH ?_|refine zI ?_|refine zJ ?_|refine zK ?_|refine zL rfl ?_|refine zN rfl ?_)
    refine wp_row (j := 10) H3 0 rfl rfl ?_
    refine wp_leno H3 3 rfl ?_
    rw [ints_len]
    refine wp_eql (fun h0 => ?_) (fun h0 => ?_)
    · have : s.free = [] := List.eq_nil_of_length_eq_zero (by have : (s.free.length : Int) = 0 := h0; omega)
      repeat (first|refine zA ?_|refine zB rfl ?_|refine zC ?_|refine zD ?_|refine zE rfl ?_|refine zF ?_|refine zG ?_|refine zH ?_|refine zI ?_|refine zJ ?_|refine zK ?_|refine zL rfl ?_|refine zN rfl ?_)
      exact wp_ret ⟨rfl, -1, 7, _, m, rfl, ⟨last, a, hl, hT, .inr ⟨hns, .inl ⟨this, rfl, rfl, rfl⟩⟩⟩, hbx, rfl, H3.dropRo hro⟩
    obtain ⟨i, f, hf⟩ : ∃ i f, s.free = i :: f := by
      cases h : s.free with
      | nil => exact absurd (by show (s.free.length : Int) = 0; rw [h]; rfl) h0
      | cons i f => exact ⟨i, f, rfl⟩
    repeat (first|refine zA ?_|refine zB rfl ?_|refine zC ?_|refine zD ?_|refine zE rfl ?_|refine zF ?_|refine zG ?_|refine zH ?_|refine zI ?_|refine zJ ?_|refine zK ?_|refine zL rfl ?_|refine zN rfl ?_)
    refine wp_row (j := 8) H3 0 rfl rfl ?_
    refine wp_add64 (by have := wf.sq; show _ ≤ s.seq + 1; omega) (by show s.seq + 1 ≤ _; omega) ?_
    repeat (first|refine zA ?_|refine zB rfl ?_|refine zC ?_|refine zD ?_|refine zE rfl ?_|refine zF ?_|refine zG ?_|refine zH ?_|refine zI ?_|refine zJ ?_|refine zK ?_|refine zL rfl ?_|refine zN rfl ?_)
    refine wp_set1 (j := 8) H3 0 rfl (by simp [Ms.row, Su.cs]) rfl rfl fun S4 H4 => ?_
    have H4 : Cx B0 W S4 (mOwn x { s with passed := s.passed.set t now, seq := s.seq + 1 } m ++ R) ro2 := H4
    repeat (first|refine zA ?_|refine zB rfl ?_|refine zC ?_|refine zD ?_|refine zE rfl ?_|refine zF ?_|refine zG ?_|refine zH ?_|refine zI ?_|refine zJ ?_|refine zK ?_|refine zL rfl ?_|refine zN rfl ?_)
    refine wp_row (j := 6) H4 0 rfl rfl ?_
    refine wp_saddr (i := t) H4 (hro _ hv) hTc fun p o H5 => ?_
    repeat (first|refine zA ?_|refine zB rfl ?_|refine zC ?_|refine zD ?_|refine zE rfl ?_|refine zF ?_|refine zG ?_|refine zH ?_|refine zI ?_|refine zJ ?_|refine zK ?_|refine zL rfl ?_|refine zN rfl ?_)
    refine wp_load1 (j := 1) H5 (cs := a.cs) (by repeat (first | exact List.Mem.head _ | apply List.Mem.tail)) rfl ?_
    repeat (first|refine zA ?_|refine zB rfl ?_|refine zC ?_|refine zD ?_|refine zE rfl ?_|refine zF ?_|refine zG ?_|refine zH ?_|refine zI ?_|refine zJ ?_|refine zK ?_|refine zL rfl ?_|refine zN rfl ?_)
    refine wp_row (j := 8) H5 0 rfl rfl ?_
    refine wp_op (v := .agg [I a.prio, I (s.seq + 1), I 0]) rfl ?_
    refine wp_callV H5 putKey_ok fun S6 H6 => ?_
    have H6 := H6.tl
    unfold putk
    by_cases hk : 1099511627775 < s.seq + 1
    · rw [if_neg (by unfold kok; omega)]
      repeat (first|refine zA ?_|refine zB rfl ?_|refine zC ?_|refine zD ?_|refine zE rfl ?_|refine zF ?_|refine zG ?_|refine zH ?_|refine zI ?_|refine zJ ?_|refine zK ?_|refine zL rfl ?_|refine zN rfl ?_)
      refine wp_neq_t (by omega) ?_
      repeat (first|refine zA ?_|refine zB rfl ?_|refine zC ?_|refine zD ?_|refine zE rfl ?_|refine zF ?_|refine zG ?_|refine zH ?_|refine zI ?_|refine zJ ?_|refine zK ?_|refine zL rfl ?_|refine zN rfl ?_)
      exact wp_ret ⟨rfl, -1, 12, _, m, rfl, ⟨last, a, hl, hT, .inr ⟨hns, .inr ⟨i, f, hf, .inl ⟨hk, rfl, rfl, rfl⟩⟩⟩⟩, hbx, rfl, H6.dropRo hro⟩
    rw [if_pos (by have := wf.sq; unfold kok; omega)]
    repeat (first|refine zA ?_|refine zB rfl ?_|refine zC ?_|refine zD ?_|refine zE rfl ?_|refine zF ?_|refine zG ?_|refine zH ?_|refine zI ?_|refine zJ ?_|refine zK ?_|refine zL rfl ?_|refine zN rfl ?_)
    refine wp_neq_f rfl ?_
    repeat (first|refine zA ?_|refine zB rfl ?_|refine zC ?_|refine zD ?_|refine zE rfl ?_|refine zF ?_|refine zG ?_|refine zH ?_|refine zI ?_|refine zJ ?_|refine zK ?_|refine zL rfl ?_|refine zN rfl ?_)
    refine wp_row (j := 11) H6 0 rfl rfl ?_
    repeat (first|refine zA ?_|refine zB rfl ?_|refine zC ?_|refine zD ?_|refine zE rfl ?_|refine zF ?_|refine zG ?_|refine zH ?_|refine zI ?_|refine zJ ?_|refine zK ?_|refine zL rfl ?_|refine zN rfl ?_)
    refine wp_row (j := 0) H6 0 rfl rfl ?_
    have hc := wf.c64
    refine wp_callV H6 (homeM_ok (cores := s.su.cores) (by omega) (by omega)) fun S7 H7 => ?_
    have hvm : slOk S7 m.vm 1 (ptrs m.bx) := ownSl_ok (H7.oh _ (List.mem_of_getElem? (i := 4) rfl))
    refine wp_cko (o := 11) H7 0 rfl rfl (beq_sl hvm) ?_
    obtain ⟨h, hh⟩ : ∃ h : Nat, (h : Int) = (t : Int) % s.su.cores := ⟨((t : Int) % s.su.cores).toNat, by have := Int.emod_nonneg (t : Int) (show s.su.cores ≠ 0 by omega); omega⟩
    have hhl : h < s.mail.length := by
      have := Int.emod_lt_of_pos (t : Int) (show 0 < s.su.cores by omega)
      have := wf.ml
      omega
    rw [← hh]
    have b1 : m.bx[h]? = some (m.bx[h]'(by omega)) := List.getElem?_eq_getElem _
    generalize m.bx[h]'(by omega) = bo at b1
    have b2 : s.mail[h]? = some s.mail[h] := List.getElem?_eq_getElem hhl
    generalize s.mail[h] = bl at b2
    have hml := wf.mb _ (List.mem_of_getElem? b2)
    have hroom : s.su.room ≤ 16 := by have := wf.fine; unfold Su.fine at this; omega
    have H7 : Cx B0 W S7 (mOwnG x { s with passed := s.passed.set t now, seq := s.seq + 1 } m m.bx ++ R) ro2 := H7
    refine wp_at (es := 1) H7 4 rfl (by rw [ptrs_len]; omega) fun id off hp => ?_
    repeat (first|refine zA ?_|refine zB rfl ?_|refine zC ?_|refine zD ?_|refine zE rfl ?_|refine zF ?_|refine zG ?_|refine zH ?_|refine zI ?_|refine zJ ?_|refine zK ?_|refine zL rfl ?_|refine zN rfl ?_)
    refine wp_atL0 H7 4 rfl hp (ptrs_get? b1) rfl ?_
    refine wp_leno H7 (h + 7) (box_get b1 b2) ?_
    rw [ints_len]
    repeat (first|refine zA ?_|refine zB rfl ?_|refine zC ?_|refine zD ?_|refine zE rfl ?_|refine zF ?_|refine zG ?_|refine zH ?_|refine zI ?_|refine zJ ?_|refine zK ?_|refine zL rfl ?_|refine zN rfl ?_)
    refine wp_row (j := 4) H7 0 rfl rfl ?_
    refine wp_eql (fun hfull => ?_) (fun hfull => ?_)
    · repeat (first|refine zA ?_|refine zB rfl ?_|refine zC ?_|refine zD ?_|refine zE rfl ?_|refine zF ?_|refine zG ?_|refine zH ?_|refine zI ?_|refine zJ ?_|refine zK ?_|refine zL rfl ?_|refine zN rfl ?_)
      exact wp_ret ⟨rfl, -1, 7, _, m, rfl, ⟨last, a, hl, hT, .inr ⟨hns, .inr ⟨i, f, hf, .inr ⟨by omega, h, bl, hh, b2, .inl ⟨hfull, rfl, rfl, rfl⟩⟩⟩⟩⟩, hbx, rfl, H7.dropRo hro⟩
    have hib := wf.fb i (by rw [hf]; exact List.mem_cons_self ..)
    obtain ⟨n, rfl⟩ : ∃ n : Nat, i = (n : Int) := ⟨i.toNat, by omega⟩
    have hn : n < s.jobs.length := by omega
    obtain ⟨y, hy, hyj⟩ := wf.job hn
    repeat (first|refine zA ?_|refine zB rfl ?_|refine zC ?_|refine zD ?_|refine zE rfl ?_|refine zF ?_|refine zG ?_|refine zH ?_|refine zI ?_|refine zJ ?_|refine zK ?_|refine zL rfl ?_|refine zN rfl ?_)
    refine wp_row (j := 10) H7 0 rfl rfl ?_
    have hm3 : (mOwnG x { s with passed := s.passed.set t now, seq := s.seq + 1 } m m.bx ++ R)[3]? = some (.sl m.vf 1 (ints ((n : Int) :: f))) := by rw [← hf]; rfl
    refine wp_at (es := 1) (i := 0) H7 3 hm3 (by simp [ints]) fun id3 off3 hp3 => ?_
    refine wp_atL0 H7 3 hm3 hp3 (x := [I (n : Int)]) rfl rfl ?_
    repeat (first|refine zA ?_|refine zB rfl ?_|refine zC ?_|refine zD ?_|refine zE rfl ?_|refine zF ?_|refine zG ?_|refine zH ?_|refine zI ?_|refine zJ ?_|refine zK ?_|refine zL rfl ?_|refine zN rfl ?_)
    refine wp_row (j := 10) H7 0 rfl rfl ?_
    refine wp_call (wpC_mono (del0_ok H7 3 hm3) fun u S8 H8 => ?_)
    have H8 : Cx B0 W S8 ((mOwnG x { s with passed := s.passed.set t now, seq := s.seq + 1 } m m.bx ++ R).set 3 (.sl u 1 (ints f))) ro2 := H8
    obtain ⟨ho1, ho2⟩ := slOk_odd1 (ownSl_ok (H8.oh (.sl u 1 (ints f)) (List.mem_of_getElem? (i := 3) rfl)))
    repeat (first|refine zA ?_|refine zB rfl ?_|refine zC ?_|refine zD ?_|refine zE rfl ?_|refine zF ?_|refine zG ?_|refine zH ?_|refine zI ?_|refine zJ ?_|refine zK ?_|refine zL rfl ?_|refine zN rfl ?_)
    refine wp_set1 (j := 10) H8 0 rfl (by simp [Ms.row, Su.cs]) ho1 ho2 fun S9 H9 => ?_
    have H9 : Cx B0 W S9 (mOwnG x { s with passed := s.passed.set t now, seq := s.seq + 1, free := f } { m with vf := u } m.bx ++ R) ro2 := H9
    repeat (first|refine zA ?_|refine zB rfl ?_|refine zC ?_|refine zD ?_|refine zE rfl ?_|refine zF ?_|refine zG ?_|refine zH ?_|refine zI ?_|refine zJ ?_|refine zK ?_|refine zL rfl ?_|refine zN rfl ?_)
    refine wp_row (j := 9) H9 0 rfl rfl ?_
    refine wp_op (v := .agg (Lv.cs ⟨n, 2, 0, kword a.prio (s.seq + 1) 0⟩)) rfl ?_
    refine wp_at (es := 4) (i := n) H9 2 rfl (by rw [lvs_len]; exact hn) fun id4 off4 hp4 => ?_
    refine wp_atSn H9 2 rfl hp4 (lvs_get? hy) rfl rfl fun S10 H10 => ?_
    have e2 : (lvs s.jobs).set n (Lv.cs ⟨n, 2, 0, kword a.prio (s.seq + 1) 0⟩) = lvs (s.jobs.set n ⟨n, 2, 0, kword a.prio (s.seq + 1) 0⟩) := lvs_set s.jobs n ⟨n, 2, 0, kword a.prio (s.seq + 1) 0⟩
    have H10 : Cx B0 W S10 ((mOwnG x { s with passed := s.passed.set t now, seq := s.seq + 1, free := f } { m with vf := u } m.bx ++ R).set 2 (.sl m.vj 4 ((lvs s.jobs).set n (Lv.cs ⟨n, 2, 0, kword a.prio (s.seq + 1) 0⟩)))) ro2 := H10
    rw [e2] at H10
    have H10 : Cx B0 W S10 (mOwnG x { s with passed := s.passed.set t now, seq := s.seq + 1, free := f, jobs := s.jobs.set n ⟨n, 2, 0, kword a.prio (s.seq + 1) 0⟩ } { m with vf := u } m.bx ++ R) ro2 := H10
    repeat (first|refine zA ?_|refine zB rfl ?_|refine zC ?_|refine zD ?_|refine zE rfl ?_|refine zF ?_|refine zG ?_|refine zH ?_|refine zI ?_|refine zJ ?_|refine zK ?_|refine zL rfl ?_|refine zN rfl ?_)
    refine wp_atL0 H10 4 rfl hp (ptrs_get? b1) rfl ?_
    refine wp_push (x := I (n : Int)) H10 (h + 7) (box_get (s := { s with passed := s.passed.set t now, seq := s.seq + 1, free := f, jobs := s.jobs.set n ⟨n, 2, 0, kword a.prio (s.seq + 1) 0⟩ }) b1 b2) rfl rfl rfl (by rw [ints_len]; unfold maxBytes; omega) (by rw [ints_len]; unfold maxLenN; omega) fun v1 S11 H11 => ?_
    have e3 : ints bl ++ [(I (n : Int)).cells] = ints (bl ++ [(n : Int)]) := by unfold ints; rw [List.map_append]; rfl
    rw [e3] at H11
    have H11 : Cx B0 W S11 ((mOwnG x { s with passed := s.passed.set t now, seq := s.seq + 1, free := f, jobs := s.jobs.set n ⟨n, 2, 0, kword a.prio (s.seq + 1) 0⟩ } { m with vf := u } m.bx ++ R).set (h + 7) (boxO v1 (bl ++ [(n : Int)]))) ro2 := H11
    rw [box_set (s := { s with passed := s.passed.set t now, seq := s.seq + 1, free := f, jobs := s.jobs.set n ⟨n, 2, 0, kword a.prio (s.seq + 1) 0⟩ }) b1 b2] at H11
    have hbz : (m.bx.set h v1)[h]? = some v1 := by rw [List.getElem?_set]; simp; omega
    have hmz : (s.mail.set h (bl ++ [(n : Int)]))[h]? = some (bl ++ [(n : Int)]) := by rw [List.getElem?_set]; simp [hhl]
    obtain ⟨ho1, ho2⟩ := slOk_odd1 (ownSl_ok (H11.oh _ (List.mem_of_getElem? (box_get (s := { s with passed := s.passed.set t now, seq := s.seq + 1, free := f, jobs := s.jobs.set n ⟨n, 2, 0, kword a.prio (s.seq + 1) 0⟩, mail := s.mail.set h (bl ++ [(n : Int)]) }) hbz hmz))))
    repeat (first|refine zA ?_|refine zB rfl ?_|refine zC ?_|refine zD ?_|refine zE rfl ?_|refine zF ?_|refine zG ?_|refine zH ?_|refine zI ?_|refine zJ ?_|refine zK ?_|refine zL rfl ?_|refine zN rfl ?_)
    refine wp_atS0 H11 4 rfl hp (ptrs_get? b1) ho1 ho2 (by omega) (by simp) fun S12 H12 => ?_
    have e4 : (ptrs m.bx).set h ([bo].set 0 v1) = ptrs (m.bx.set h v1) := ptrs_set _ _ _
    have H12 : Cx B0 W S12 ((mOwnG x { s with passed := s.passed.set t now, seq := s.seq + 1, free := f, jobs := s.jobs.set n ⟨n, 2, 0, kword a.prio (s.seq + 1) 0⟩, mail := s.mail.set h (bl ++ [(n : Int)]) } { m with vf := u } (m.bx.set h v1) ++ R).set 4 (.sl m.vm 1 ((ptrs m.bx).set h ([bo].set 0 v1)))) ro2 := H12
    rw [e4] at H12
    refine wp_ret ⟨rfl, n, 0, _, { m with vf := u, bx := m.bx.set h v1 }, rfl, ⟨last, a, hl, hT, .inr ⟨hns, .inr ⟨n, f, hf, .inr ⟨by omega, h, bl, hh, b2, .inr ⟨hfull, rfl, rfl, rfl⟩⟩⟩⟩⟩, ?_, rfl, ?_⟩
    · show (m.bx.set h v1).length = (s.mail.set h _).length
      rw [List.length_set, List.length_set]; exact hbx
    · have e5 : Ms.rel { s with passed := s.passed.set t now, seq := s.seq + 1 } (n : Int) f h bl (kword a.prio (s.seq + 1) 0) = { s with passed := s.passed.set t now, seq := s.seq + 1, free := f, jobs := s.jobs.set n ⟨n, 2, 0, kword a.prio (s.seq + 1) 0⟩, mail := s.mail.set h (bl ++ [(n : Int)]) } := rfl
      rw [e5]
      exact H12.dropRo hro
  unfold Try.a53x13 Try.a53x12 Try.a53x11 Try.a53x10 Try.a53x9 Try.a53x8 Try.a53x7 Try.a53x6 Try.a53x5 Try.a53x4 Try.a53x3 Try.a53x2 Try.a53x1 Try.a53x0 at rest
  refine wp_neq (fun hne => ?_) (fun he => ?_)
  · repeat (first|refine zA ?_|refine zB rfl ?_|refine zC ?_|refine zD ?_|refine zE rfl ?_|refine zF ?_|refine zG ?_|refine zH ?_|refine zI ?_|refine zJ ?_|refine zK ?_|refine zL rfl ?_|refine zN rfl ?_)
    refine wp_ld H1 (o := 2) (cs := [I kind, I (t : Int), I now]) (by repeat (first | exact List.Mem.head _ | apply List.Mem.tail)) rfl ?_
    repeat (first|refine zA ?_|refine zB rfl ?_|refine zC ?_|refine zD ?_|refine zE rfl ?_|refine zF ?_|refine zG ?_|refine zH ?_|refine zI ?_|refine zJ ?_|refine zK ?_|refine zL rfl ?_|refine zN rfl ?_)
    refine wp_lss (fun hlt => ?_) (fun hge => ?_)
    · repeat (first|refine zA ?_|refine zB rfl ?_|refine zC ?_|refine zD ?_|refine zE rfl ?_|refine zF ?_|refine zG ?_|refine zH ?_|refine zI ?_|refine zJ ?_|refine zK ?_|refine zL rfl ?_|refine zN rfl ?_)
      exact wp_ret (soon hne (.inl hlt) H1.tl)
    · repeat (first|refine zA ?_|refine zB rfl ?_|refine zC ?_|refine zD ?_|refine zE rfl ?_|refine zF ?_|refine zG ?_|refine zH ?_|refine zI ?_|refine zJ ?_|refine zK ?_|refine zL rfl ?_|refine zN rfl ?_)
      refine wp_ld H1 (o := 2) (cs := [I kind, I (t : Int), I now]) (by repeat (first | exact List.Mem.head _ | apply List.Mem.tail)) rfl ?_
      repeat (first|refine zA ?_|refine zB rfl ?_|refine zC ?_|refine zD ?_|refine zE rfl ?_|refine zF ?_|refine zG ?_|refine zH ?_|refine zI ?_|refine zJ ?_|refine zK ?_|refine zL rfl ?_|refine zN rfl ?_)
      refine wp_sub64 (by omega) (by omega) ?_
      repeat (first|refine zA ?_|refine zB rfl ?_|refine zC ?_|refine zD ?_|refine zE rfl ?_|refine zF ?_|refine zG ?_|refine zH ?_|refine zI ?_|refine zJ ?_|refine zK ?_|refine zL rfl ?_|refine zN rfl ?_)
      refine wp_row (j := 6) H1 0 rfl rfl ?_
      repeat (first|refine zA ?_|refine zB rfl ?_|refine zC ?_|refine zD ?_|refine zE rfl ?_|refine zF ?_|refine zG ?_|refine zH ?_|refine zI ?_|refine zJ ?_|refine zK ?_|refine zL rfl ?_|refine zN rfl ?_)
      refine wp_saddr (i := t) H1 hv1 hTc fun p o H2 => ?_
      repeat (first|refine zA ?_|refine zB rfl ?_|refine zC ?_|refine zD ?_|refine zE rfl ?_|refine zF ?_|refine zG ?_|refine zH ?_|refine zI ?_|refine zJ ?_|refine zK ?_|refine zL rfl ?_|refine zN rfl ?_)
      refine wp_load1 (j := 2) H2 (cs := a.cs) (by repeat (first | exact List.Mem.head _ | apply List.Mem.tail)) rfl ?_
      repeat (first|refine zA ?_|refine zB rfl ?_|refine zC ?_|refine zD ?_|refine zE rfl ?_|refine zF ?_|refine zG ?_|refine zH ?_|refine zI ?_|refine zJ ?_|refine zK ?_|refine zL rfl ?_|refine zN rfl ?_)
      refine wp_lss (fun hlt => ?_) (fun hge2 => ?_)
      · repeat (first|refine zA ?_|refine zB rfl ?_|refine zC ?_|refine zD ?_|refine zE rfl ?_|refine zF ?_|refine zG ?_|refine zH ?_|refine zI ?_|refine zJ ?_|refine zK ?_|refine zL rfl ?_|refine zN rfl ?_)
        exact wp_ret (soon hne (.inr hlt) H2.tl.tl)
      · have := rest (fun h => by omega) (fun φ h => List.mem_cons_of_mem _ (List.mem_cons_of_mem _ h)) (by repeat (first | exact List.Mem.head _ | apply List.Mem.tail)) H2
        repeat (first|refine zA ?_|refine zB rfl ?_|refine zC ?_|refine zD ?_|refine zE rfl ?_|refine zF ?_|refine zG ?_|refine zH ?_|refine zI ?_|refine zJ ?_|refine zK ?_|refine zL rfl ?_|refine zN rfl ?_)
        exact this
  · subst he
    have := rest (fun h => h.1 rfl) (fun φ h => List.mem_cons_of_mem _ h) (by repeat (first | exact List.Mem.head _ | apply List.Mem.tail)) H1
    repeat (first|refine zA ?_|refine zB rfl ?_|refine zC ?_|refine zD ?_|refine zE rfl ?_|refine zF ?_|refine zG ?_|refine zH ?_|refine zI ?_|refine zJ ?_|refine zK ?_|refine zL rfl ?_|refine zN rfl ?_)
    exact this
end
end Go.Abs
namespace Go.Abs
open Go.Proofs
set_option maxRecDepth 100000
set_option linter.unusedVariables false
open Tsk (Tk tks tchk tks_len tks_get)
/-! ### what an operation leaves goes through, too -/
theorem Bal.same {s s' : Ms} (b : Bal s s') : s'.jobs = s.jobs ∧ s'.su = s.su ∧ s'.T = s.T ∧ s'.seq = s.seq ∧ s'.mail = s.mail ∧ s'.runs = s.runs ∧ s'.free = s.free ∧ s'.passed = s.passed := by
  rcases b with ⟨_, rfl⟩ | ⟨_, _, _, _, _, _, rfl⟩
  · simp
  · split <;> simp
/-- what an operation tells, and that it stays well -/
def Told (s s' : Ms) (r e : Int) : Prop := s'.Wf ∧ s'.jobs.length = s.jobs.length ∧ s'.su = s.su ∧ s'.T = s.T ∧ s'.seq ≤ s.seq + 1 ∧ (e = 0 → r ≠ -1 → 0 ≤ r ∧ r < s.jobs.length)
theorem Told.self {s : Ms} (h : s.Wf) {e : Int} : Told s s (-1) e := ⟨h, rfl, rfl, rfl, by omega, fun _ h => absurd rfl h⟩
theorem PickR.told {s s' : Ms} {c : Nat} {r e : Int} (h : s.Wf) (p : PickR s c r e s') : Told s s' r e := by
  rcases p with ⟨i, h1, h2, rfl, rfl, rfl⟩ | ⟨h1, h2, rfl, rfl, rfl⟩ | ⟨z, h1, hz, rfl, rfl, hb⟩
  · exact .self h
  · exact .self h
  · obtain ⟨q1, q2, q3, q4, _⟩ := hb.same
    obtain ⟨n, h3, h4, _⟩ := h.least hz
    have hn := (List.getElem?_eq_some_iff.1 h4).1
    refine ⟨hb.wf (h.claim hz), ?_, q2, q3, ?_, fun _ _ => by omega⟩
    · rw [q1]; show (s.jobs.set _ _).length = _; rw [List.length_set]
    · rw [q4]; show s.seq ≤ _; omega
theorem TakeR.told {s s' : Ms} {c : Nat} {r e : Int} (h : s.Wf) (p : TakeR s c r e s') : Told s s' r e := by
  rcases p with ⟨h1, rfl, rfl, rfl⟩ | ⟨i, l, y, h1, h2, rfl, rfl, hb⟩
  · exact .self h
  · obtain ⟨q1, q2, q3, q4, _⟩ := hb.same
    have hm := (h.mb _ (List.mem_of_getElem? h1)).2 r (List.mem_cons_self ..)
    refine ⟨hb.wf (h.takes h1 h2), ?_, q2, q3, ?_, fun _ _ => hm⟩
    · rw [q1]; show (s.jobs.set _ _).length = _; rw [List.length_set]
    · rw [q4]; show s.seq ≤ _; omega
theorem EndR.told {s s' : Ms} {c : Nat} {r e : Int} (h : s.Wf) (hf : ∀ i, s.runs[c]? = some i → i ≠ -1 → s.free.length < s.jobs.length) (p : EndR s c r e s') : Told s s' r e := by
  rcases p with ⟨h1, rfl, rfl, rfl⟩ | ⟨i, y, h1, h2, h3, rfl, rfl, hb⟩
  · exact .self h
  · obtain ⟨q1, q2, q3, q4, _⟩ := hb.same
    obtain ⟨n, rfl, y', hy', hyj⟩ := h.run h1 h2
    have hn := (List.getElem?_eq_some_iff.1 hy').1
    rw [Int.toNat_natCast, hy'] at h3
    cases h3
    refine ⟨hb.wf (h.ends hy' hyj (hf _ h1 h2)), ?_, q2, q3, ?_, fun _ _ => by omega⟩
    · rw [q1]; show (s.jobs.set _ _).length = _; rw [List.length_set]
    · rw [q4]; show s.seq ≤ _; omega
theorem ThenPick.told {s s' : Ms} {c : Nat} {r e : Int} (h : s.Wf) (p : ThenPick s c r e s') : Told s s' r e := by
  obtain ⟨r0, e0, hp, he⟩ := p
  obtain ⟨h1, h2, h3, h4, h5, h6⟩ := hp.told h
  split at he
  · obtain ⟨rfl, rfl⟩ := he
    exact ⟨h1, h2, h3, h4, h5, fun _ h => absurd rfl h⟩
  · obtain ⟨rfl, rfl⟩ := he
    exact ⟨h1, h2, h3, h4, h5, h6⟩
theorem ServeR.told {s s' : Ms} {c : Nat} {r e : Int} (h : s.Wf) (p : ServeR s c r e s') : Told s s' r e := by
  rcases p with ⟨h1, rfl, rfl, rfl⟩ | ⟨h1, h2, hp⟩ | ⟨i, y, h1, h2, h3, h4, ⟨h5, rfl, rfl, rfl⟩ | ⟨h5, hp⟩⟩
  · exact .self h
  · exact hp.told (s := s.drops c) h.setFlag
  · exact ⟨h.setFlag, rfl, rfl, rfl, by show s.seq ≤ _; omega, fun _ h => absurd rfl h⟩
  · obtain ⟨n, rfl, y', hy', hyj⟩ := h.run h2 h3
    rw [Int.toNat_natCast, hy'] at h4
    cases h4
    have hl : (s.gives c y).jobs.length = s.jobs.length := by show (s.jobs.set _ _).length = _; rw [List.length_set]
    obtain ⟨h1, h2, h3, h4, h5, h6⟩ := hp.told (h.gives hy' hyj h5)
    exact ⟨h1, h2.trans hl, h3, h4, h5, fun h h' => by rw [← hl]; exact h6 h h'⟩
theorem RelR.told {s s' : Ms} {t : Nat} {now r e : Int} (h : s.Wf) (hnow : 0 ≤ now ∧ now ≤ 1099511627776) (hseq : s.seq < 1152921504606846976) (p : RelR s t now r e s') : Told s s' r e := by
  have hq := h.sq
  obtain ⟨last, a, h1, h2, p⟩ := p
  have hab := tone_bd ((tchk_all h.chk).2 a (List.mem_of_getElem? h2))
  have wp := h.setPassed (t := t) (p := now) ⟨by omega, hnow.2⟩
  rcases p with ⟨_, _, rfl, rfl, rfl⟩ | ⟨_, ⟨_, rfl, rfl, rfl⟩ | ⟨i, f, hf, ⟨_, rfl, rfl, rfl⟩ | ⟨h4, hh, box, h5, h6, ⟨_, rfl, rfl, rfl⟩ | ⟨h7, rfl, rfl, rfl⟩⟩⟩⟩
  · exact .self h
  · exact ⟨wp, rfl, rfl, rfl, by show s.seq ≤ _; omega, fun _ h => absurd rfl h⟩
  · exact ⟨wp.setSeq (q := s.seq + 1) (by omega), rfl, rfl, rfl, by show s.seq + 1 ≤ _; omega, fun _ h => absurd rfl h⟩
  · exact ⟨wp.setSeq (q := s.seq + 1) (by omega), rfl, rfl, rfl, by show s.seq + 1 ≤ _; omega, fun _ h => absurd rfl h⟩
  · have hib := h.fb r (by rw [hf]; exact List.mem_cons_self ..)
    have hmb := h.mb _ (List.mem_of_getElem? h6)
    have hfl := h.fl
    rw [hf, List.length_cons] at hfl
    have w1 := (wp.setSeq (q := s.seq + 1) (by omega)).setFree (l := f) (by show f.length ≤ s.jobs.length; omega) (fun i hi => h.fb i (by rw [hf]; exact List.mem_cons_of_mem _ hi))
    have w2 := w1.setMail (c := hh) (l := box ++ [r]) ⟨by rw [List.length_append, List.length_singleton]; have := hmb.1; show ((box.length + 1 : Nat) : Int) ≤ s.su.room; omega, fun i hi => by
      show 0 ≤ i ∧ i < (s.jobs.length : Int)
      rcases List.mem_append.1 hi with hi | hi
      · exact hmb.2 i hi
      · rw [List.mem_singleton.1 hi]; exact hib⟩
    have w3 := w2.setJob (i := r.toNat) (y := ⟨r, 2, 0, kword a.prio (s.seq + 1) 0⟩) (by show r = (r.toNat : Int); omega) (by show 0 ≤ kword a.prio (s.seq + 1) 0 ∧ kword a.prio (s.seq + 1) 0 < 18374686479671623680; unfold kword; omega)
    refine ⟨w3, by show (s.jobs.set _ _).length = _; rw [List.length_set], rfl, rfl, by show s.seq + 1 ≤ _; omega, fun _ _ => hib⟩
/-! ### an operation -/
def OpR (s : Ms) (kind at' now r e : Int) (s' : Ms) : Prop :=
  (kind = 1 ∧ RelR s at'.toNat now r e s') ∨ (kind = 2 ∧ TakeR s at'.toNat r e s') ∨ (kind = 3 ∧ PickR s at'.toNat r e s') ∨ (kind = 4 ∧ ServeR s at'.toNat r e s') ∨ (kind = 5 ∧ EndR s at'.toNat r e s')
def most (s : Ms) (kind : Int) : Int := if kind = 1 then s.T.length else s.su.cores
def mayAt (s : Ms) (kind at' now : Int) : Prop := (kind = 1 → 0 ≤ now ∧ now ≤ 1099511627776) ∧ 0 ≤ at' ∧ at' < most s kind
def DoR (s : Ms) (kind at' now r e : Int) (s' : Ms) : Prop :=
  (¬ (1 ≤ kind ∧ kind ≤ 5) ∧ r = -1 ∧ e = 2 ∧ s' = s) ∨ ((1 ≤ kind ∧ kind ≤ 5) ∧ ¬ mayAt s kind at' now ∧ r = -1 ∧ e = 3 ∧ s' = s) ∨ ((1 ≤ kind ∧ kind ≤ 5) ∧ mayAt s kind at' now ∧ OpR s kind at' now r e s')
def keyAt (s : Ms) (r : Int) : Int := match s.jobs[r.toNat]? with
  | some y => y.key
  | none => 0
def told (s : Ms) (r e : Int) : AV := if e = 0 ∧ r ≠ -1 then .agg [I r, U (keyAt s r)] else .agg [I 0, U 0]
section
variable {B0 S : AH} {W : List Nat} {own R : List Own} {ro : List Fct} {Q : Post} {k : AV → AC} {v : AV} {x : Nat} {s : Ms} {m : Mv}
def deedM : List (Int × AV) := [(1, .fn (.func 53) [] []), (2, .fn (.func 54) [] []), (3, .fn (.func 55) [] []), (4, .fn (.func 56) [] []), (5, .fn (.func 57) [] [])]
theorem deeds_ok (H : Cx B0 W S own ro) : wpC EM (.fn (.func 39) [] []) [] S fun r S' => ∃ p, r = .map p ∧ Cx B0 W S' own (.ob p (.map (ment deedM)) :: ro) := by
  refine wpC_fn (b := Try.a39) rfl rfl ?_
  unfold Try.a39
  refine wp_mkmap H fun p S1 H => ?_
  have H : Cx B0 W S1 (.obj p (.map (ment [])) :: own) ro := H
  refine wp_mapset H 0 undI rfl fun S2 H => ?_
  refine wp_mapset H 0 undI rfl fun S3 H => ?_
  refine wp_mapset H 0 undI rfl fun S4 H => ?_
  refine wp_mapset H 0 undI rfl fun S5 H => ?_
  refine wp_mapset H 0 undI rfl fun S6 H => ?_
  have H : Cx B0 W S6 (.obj p (.map (ment deedM)) :: own) ro := H
  exact wp_ret ⟨rfl, p, rfl, H.freezeOb (i := 0) rfl⟩
theorem clearTold_ok {t e : Nat} {a b c : AV} (H : Cx B0 W S (.obj e (.row [c]) :: .obj t (.row [a, b]) :: own) ro) {n : Int} (hc : c = I n) :
    wpC EM (.fn (.func 37) [] [.ptr e 0, .ptr t 0]) [] S fun _ S' => Cx B0 W S' (.obj e (.row [c]) :: .obj t (.row (if n = 0 then [a, b] else [I 0, U 0])) :: own) ro := by
  subst hc
  refine wpC_fn (b := Try.a37) rfl rfl ?_
  unfold Try.a37 Try.a37x0
  refine wp_row (j := 0) H 0 rfl rfl ?_
  refine wp_neq (fun hne => ?_) (fun he => ?_)
  · refine wp_bind ?_
    repeat (first|refine zA ?_|refine zB rfl ?_|refine zC ?_|refine zD ?_|refine zE rfl ?_|refine zF ?_|refine zG ?_|refine zH ?_|refine zI ?_|refine zJ ?_|refine zK ?_|refine zL rfl ?_|refine zN rfl ?_)
    refine wp_op (v := .agg [I 0, U 0]) rfl ?_
    refine wp_store H 1 rfl rfl rfl (Nat.le_of_ble_eq_true rfl) fun S2 H => ?_
    refine wp_ret ?_
    show wp EM _ _ _
    refine wp_ret ⟨rfl, ?_⟩
    rw [if_neg hne]; exact H
  · refine wp_bind ?_
    repeat (first|refine zA ?_|refine zB rfl ?_|refine zC ?_|refine zD ?_|refine zE rfl ?_|refine zF ?_|refine zG ?_|refine zH ?_|refine zI ?_|refine zJ ?_|refine zK ?_|refine zL rfl ?_|refine zN rfl ?_)
    refine wp_ret ?_
    show wp EM _ _ _
    refine wp_ret ⟨rfl, ?_⟩
    rw [if_pos he]; exact H
end
end Go.Abs
namespace Go.Abs
open Go.Proofs
set_option maxRecDepth 100000
set_option linter.unusedVariables false
open Tsk (Tk tks tchk tks_len tks_get)
section
variable {B0 S : AH} {W : List Nat} {own R : List Own} {ro : List Fct} {Q : Post} {k : AV → AC} {v : AV} {x : Nat} {s : Ms} {m : Mv}
theorem bal_mail {s s' : Ms} (b : Bal s s') : s'.mail = s.mail := b.same.2.2.2.2.1
theorem PickR.mail {s s' : Ms} {c : Nat} {r e : Int} (p : PickR s c r e s') : s'.mail = s.mail := by
  rcases p with ⟨i, h1, h2, rfl, rfl, rfl⟩ | ⟨h1, h2, rfl, rfl, rfl⟩ | ⟨z, h1, hz, rfl, rfl, hb⟩
  · rfl
  · rfl
  · have := bal_mail hb; exact this
theorem ThenPick.mail {s s' : Ms} {c : Nat} {r e : Int} (p : ThenPick s c r e s') : s'.mail = s.mail := by
  obtain ⟨_, _, hp, _⟩ := p
  exact hp.mail
theorem ServeR.mail {s s' : Ms} {c : Nat} {r e : Int} (p : ServeR s c r e s') : s'.mail = s.mail := by
  rcases p with ⟨h1, rfl, rfl, rfl⟩ | ⟨h1, h2, hp⟩ | ⟨i, y, h1, h2, h3, h4, ⟨h5, rfl, rfl, rfl⟩ | ⟨h5, hp⟩⟩
  · rfl
  · exact hp.mail
  · rfl
  · exact hp.mail
theorem EndR.mail {s s' : Ms} {c : Nat} {r e : Int} (p : EndR s c r e s') : s'.mail = s.mail := by
  rcases p with ⟨h1, rfl, rfl, rfl⟩ | ⟨i, y, h1, h2, h3, rfl, rfl, hb⟩
  · rfl
  · have := bal_mail hb; exact this
/-- what is asked of a model ahead of an operation -/
structure Fit (s : Ms) (m : Mv) (ro : List Fct) : Prop where
  wf : s.Wf
  bx : m.bx.length = s.mail.length
  jl : s.jobs.length ≤ 12
  vt : Fct.sl m.vt 4 (tks s.T) ∈ ro
  sq : s.seq < 1152921504606846976
  fr : ∀ (c : Nat) (i : Int), s.runs[c]? = some i → i ≠ -1 → s.free.length < s.jobs.length
theorem deed_ok {kind at' now : Int} (h : Fit s m ro) (hk : 1 ≤ kind ∧ kind ≤ 5) (hf : mayAt s kind at' now) (H : Cx B0 W S (mOwn x s m ++ R) ro) :
    wpC EM ((mget deedM kind).getD Nf) [.ptr x 0, Deal kind at' now] S fun u S' => ∃ r e s' m', u = .tup [I r, I e] ∧ OpR s kind at' now r e s' ∧ m'.bx.length = s'.mail.length ∧ m'.vt = m.vt ∧ Cx B0 W S' (mOwn x s' m' ++ R) ro := by
  obtain ⟨hf1, hf2, hf3⟩ := hf
  obtain ⟨a, rfl⟩ : ∃ a : Nat, at' = (a : Int) := ⟨at'.toNat, by omega⟩
  unfold most at hf3
  have hcase : kind = 1 ∨ kind = 2 ∨ kind = 3 ∨ kind = 4 ∨ kind = 5 := by omega
  rcases hcase with rfl | rfl | rfl | rfl | rfl
  · rw [if_pos rfl] at hf3
    refine wpC_mono (release_ok h.wf h.bx h.vt (t := a) (by omega) (hf1 rfl) h.sq H) fun u S' q => ?_
    obtain ⟨r, e, s', m', h1, h2, h3⟩ := q
    exact ⟨r, e, s', m', h1, .inl ⟨rfl, h2⟩, h3⟩
  · refine wpC_mono (take_ok h.wf h.bx h.jl (c := a) (by rw [if_neg (by omega)] at hf3; exact hf3) H) fun u S' q => ?_
    obtain ⟨r, e, s', m', h1, h2, h3⟩ := q
    exact ⟨r, e, s', m', h1, .inr (.inl ⟨rfl, h2⟩), h3⟩
  · refine wpC_mono (pick_ok' h.wf h.jl (c := a) (by rw [if_neg (by omega)] at hf3; exact hf3) H) fun u S' q => ?_
    obtain ⟨r, e, s', h1, h2, h3⟩ := q
    exact ⟨r, e, s', m, h1, .inr (.inr (.inl ⟨rfl, h2⟩)), by rw [h.bx, h2.mail], rfl, h3⟩
  · refine wpC_mono (serve_ok h.wf h.jl (c := a) (by rw [if_neg (by omega)] at hf3; exact hf3) H) fun u S' q => ?_
    obtain ⟨r, e, s', h1, h2, h3⟩ := q
    exact ⟨r, e, s', m, h1, .inr (.inr (.inr (.inl ⟨rfl, h2⟩))), by rw [h.bx, h2.mail], rfl, h3⟩
  · refine wpC_mono (complete_ok h.wf h.jl (c := a) (by rw [if_neg (by omega)] at hf3; exact hf3) (h.fr a) H) fun u S' q => ?_
    obtain ⟨r, e, s', m', h1, h2, h3, h4, h5⟩ := q
    exact ⟨r, e, s', m', h1, .inr (.inr (.inr (.inr ⟨rfl, h2⟩))), by rw [h3, h.bx, h2.mail], h4, h5⟩
theorem OpR.told {s s' : Ms} {kind at' now r e : Int} {m : Mv} {ro : List Fct} (h : Fit s m ro) (hf : mayAt s kind at' now) (p : OpR s kind at' now r e s') : Told s s' r e := by
  rcases p with ⟨hk, p⟩ | ⟨hk, p⟩ | ⟨hk, p⟩ | ⟨hk, p⟩ | ⟨hk, p⟩
  · exact p.told h.wf (hf.1 hk) h.sq
  · exact p.told h.wf
  · exact p.told h.wf
  · exact p.told h.wf
  · exact p.told h.wf (h.fr _)
theorem DoR.told {s s' : Ms} {kind at' now r e : Int} {m : Mv} {ro : List Fct} (h : Fit s m ro) (p : DoR s kind at' now r e s') : Told s s' r e := by
  rcases p with ⟨_, rfl, rfl, rfl⟩ | ⟨_, _, rfl, rfl, rfl⟩ | ⟨_, hf, p⟩
  · exact .self h.wf
  · exact .self h.wf
  · exact p.told h hf
set_option maxHeartbeats 2000000 in
theorem do_ok {kind at' now : Int} (h : Fit s m ro) (H : Cx B0 W S (mOwn x s m ++ R) ro) :
    wpC EM (.fn (.func 18) [] []) [.ptr x 0, Deal kind at' now] S fun u S' => ∃ r e s' m', u = .tup [told s' r e, I e] ∧ DoR s kind at' now r e s' ∧ m'.bx.length = s'.mail.length ∧ m'.vt = m.vt ∧ Cx B0 W S' (mOwn x s' m' ++ R) ro := by
  refine wpC_fn (b := Try.a18) rfl rfl ?_
  unfold Try.a18 Try.a18x15 Try.a18x14 Try.a18x13 Try.a18x12 Try.a18x11 Try.a18x10 Try.a18x9 Try.a18x8 Try.a18x7 Try.a18x6 Try.a18x5 Try.a18x4 Try.a18x3 Try.a18x2 Try.a18x1 Try.a18x0
  refine wp_box H rfl fun b S1 H => ?_
  have H : Cx B0 W S1 (mOwn x s m ++ R) (.pt b 0 [I kind, I at', I now] :: ro) := H
  refine wp_alloc H fun t S2 H => ?_
  refine wp_alloc H fun er S3 H => ?_
  refine wp_fin ?_
  -- how it ends
  have fin : ∀ {S4 : AH} {ro2 : List Fct} {r e : Int} {s' : Ms} {m' : Mv}, (∀ φ ∈ ro, φ ∈ ro2) → DoR s kind at' now r e s' → m'.bx.length = s'.mail.length → m'.vt = m.vt → Cx B0 W S4 (.obj er (.row [I e]) :: .obj t (.row (if e = 0 ∧ r ≠ -1 then [I r, U (keyAt s' r)] else [I 0, U 0])) :: (mOwn x s' m' ++ R)) ro2 →
      wp EM (Try.a18x15 (.ptr t 0) (.ptr er 0) [.ptr t 0, .ptr er 0]) S4 fun tg vs S' => tg = .ret ∧ ∃ r e s' m', oneOf vs = .tup [told s' r e, I e] ∧ DoR s kind at' now r e s' ∧ m'.bx.length = s'.mail.length ∧ m'.vt = m.vt ∧ Cx B0 W S' (mOwn x s' m' ++ R) ro := by
    intro S4 ro2 r e s' m' hro hd h1 h2 H
    unfold Try.a18x15
    have ht : ∃ a b, (if e = 0 ∧ r ≠ -1 then [I r, U (keyAt s' r)] else [I 0, U 0]) = [a, b] ∧ odd a = false ∧ odd b = false := by split <;> exact ⟨_, _, rfl, rfl, rfl⟩
    obtain ⟨a, b, hab, _, _⟩ := ht
    rw [hab] at H
    refine wp_call (wpC_mono (clearTold_ok (n := e) H rfl) fun u S5 q => ?_)
    have H5 : Cx B0 W S5 (.obj er (.row [I e]) :: .obj t (.row (if e = 0 then [a, b] else [I 0, U 0])) :: (mOwn x s' m' ++ R)) ro2 := q
    have h2l : (if e = 0 then [a, b] else [I 0, U 0]).length = 2 := by split <;> rfl
    refine wp_loadoa (n := 2) (off := 0) H5 1 rfl (by rw [h2l]; exact Nat.le_refl _) ?_
    refine wp_row (j := 0) H5 0 rfl rfl ?_
    refine wp_ret ⟨rfl, r, e, s', m', ?_, hd, h1, h2, ((H5.dropAt 0).dropAt 0).dropRo hro⟩
    rw [List.drop_zero, List.take_of_length_le (by rw [h2l]; exact Nat.le_refl _)]
    show AV.tup [.agg (if e = 0 then [a, b] else [I 0, U 0]), I e] = _
    unfold told
    by_cases he : e = 0
    · rw [if_pos he, ← hab]
      split <;> rfl
    · rw [if_neg he, if_neg fun h => he h.1]
  unfold Try.a18x15 at fin
  have hsame : (if (0 : Int) = 0 ∧ (-1 : Int) ≠ -1 then [I (-1), U (keyAt s (-1))] else [I 0, U 0]) = [I 0, U 0] := if_neg fun h => h.2 rfl
  -- it is refused
  have refuse : ∀ {S4 : AH} {ro2 : List Fct} (e : Int), e ≠ 0 → (∀ φ ∈ ro, φ ∈ ro2) → DoR s kind at' now (-1) e s → Cx B0 W S4 (.obj er (.row [I 0]) :: .obj t (.row [I 0, U 0]) :: (mOwn x s m ++ R)) ro2 → ∀ vs', 
      wp EM (.op (.load 2 true (.ptr t 0)) fun a => .op (.store 2 (.ptr t 0) a) fun _ => .op (.store 1 (.ptr er 0) (I e)) fun _ => .ret .ret vs') S4 fun tg vs S' => tg = .ret ∧ vs = vs' ∧ Cx B0 W S' (.obj er (.row [I e]) :: .obj t (.row [I 0, U 0]) :: (mOwn x s m ++ R)) ro2 := by
    intro S4 ro2 e he hro hd H vs'
    refine wp_loadoa (n := 2) (off := 0) H 1 rfl (Nat.le_of_ble_eq_true rfl) ?_
    refine wp_store H 1 rfl rfl rfl (Nat.le_of_ble_eq_true rfl) fun S5 H => ?_
    refine wp_store H 0 rfl rfl rfl (Nat.le_of_ble_eq_true rfl) fun S6 H => ?_
    exact wp_ret ⟨rfl, rfl, H⟩
  have h64 := h.wf.j64
  refine wp_call (wpC_mono (nothing_ok (x := x) (s := s) (m := m) (R := .obj er (.row [I 0]) :: .obj t (.row [I 0, U 0]) :: R) (by omega) (H.perm ?_)) fun r S4 q => ?_)
  · exact (List.Perm.cons _ List.perm_middle.symm).trans List.perm_middle.symm
  obtain ⟨rfl, rfl⟩ := q
  repeat (first|refine zA ?_|refine zB rfl ?_|refine zC ?_|refine zD ?_|refine zE rfl ?_|refine zF ?_|refine zG ?_|refine zH ?_|refine zI ?_|refine zJ ?_|refine zK ?_|refine zL rfl ?_|refine zN rfl ?_)
  refine wp_ld H (o := 0) (cs := [I kind, I at', I now]) (by repeat (first | exact List.Mem.head _ | apply List.Mem.tail)) rfl ?_
  refine wp_call (wpC_mono (deeds_ok H) fun u S5 q => ?_)
  obtain ⟨p, rfl, H5⟩ := q
  refine wp_chk1 H5 (cs := [I kind, I at', I now]) (off := 0) (j := 0) (by repeat (first | exact List.Mem.head _ | apply List.Mem.tail)) rfl beq_num ?_
  refine wp_lookupR H5 undI (by repeat (first | exact List.Mem.head _ | apply List.Mem.tail)) ?_
  have hro5 : ∀ φ ∈ ro, φ ∈ Fct.ob p (.map (ment deedM)) :: Fct.pt b 0 [I kind, I at', I now] :: ro := fun φ hφ => List.mem_cons_of_mem _ (List.mem_cons_of_mem _ hφ)
  by_cases hk : 1 ≤ kind ∧ kind ≤ 5
  · have hfn : evalOp EM.P (.eq 74 false ((mget deedM kind).getD Nf) Nf) S5 = some (B false, S5) := by
      have hcase : kind = 1 ∨ kind = 2 ∨ kind = 3 ∨ kind = 4 ∨ kind = 5 := by omega
      rcases hcase with rfl | rfl | rfl | rfl | rfl <;> rfl
    refine wp_op hfn ?_
    repeat (first|refine zA ?_|refine zB rfl ?_|refine zC ?_|refine zD ?_|refine zE rfl ?_|refine zF ?_|refine zG ?_|refine zH ?_|refine zI ?_|refine zJ ?_|refine zK ?_|refine zL rfl ?_|refine zN rfl ?_)
    refine wp_row (j := 0) H5 2 rfl rfl ?_
    repeat (first|refine zA ?_|refine zB rfl ?_|refine zC ?_|refine zD ?_|refine zE rfl ?_|refine zF ?_|refine zG ?_|refine zH ?_|refine zI ?_|refine zJ ?_|refine zK ?_|refine zL rfl ?_|refine zN rfl ?_)
    refine wp_ld H5 (o := 0) (cs := [I kind, I at', I now]) (by repeat (first | exact List.Mem.head _ | apply List.Mem.tail)) rfl ?_
    -- behind what is asked of a time
    have rest : ∀ {S6 : AH}, (kind = 1 → 0 ≤ now ∧ now ≤ 1099511627776) → Cx B0 W S6 (.obj er (.row [I 0]) :: .obj t (.row [I 0, U 0]) :: (mOwn x s m ++ R)) (.ob p (.map (ment deedM)) :: .pt b 0 [I kind, I at', I now] :: ro) →
        wp EM (.op (.faddr 1 (.ptr b 0)) fun v18 => .op (.load 1 false v18) fun v19 => .op (.bin .lss v19 (I 0)) fun v20 => Try.a18x10 ([] ++ ([.ptr x 0, Deal kind at' now] ++ [])) (.ptr b 0) (.ptr t 0) (.ptr er 0) ((mget deedM kind).getD Nf) [I (most s kind)] v20) S6 fun tg vs S' => tg = .ret ∧ vs = [.ptr t 0, .ptr er 0] ∧ ∃ r e s' m', DoR s kind at' now r e s' ∧ m'.bx.length = s'.mail.length ∧ m'.vt = m.vt ∧ Cx B0 W S' (.obj er (.row [I e]) :: .obj t (.row (if e = 0 ∧ r ≠ -1 then [I r, U (keyAt s' r)] else [I 0, U 0])) :: (mOwn x s' m' ++ R)) (.ob p (.map (ment deedM)) :: .pt b 0 [I kind, I at', I now] :: ro) := by
      intro S6 hnow H6
      unfold Try.a18x10 Try.a18x4 Try.a18x9 Try.a18x8 Try.a18x7 Try.a18x6 Try.a18x5
      have bad : ¬ (0 ≤ at' ∧ at' < most s kind) → wp EM (.op (.load 2 true (.ptr t 0)) fun a => .op (.store 2 (.ptr t 0) a) fun _ => .op (.store 1 (.ptr er 0) (I 3)) fun _ => .ret .ret [.ptr t 0, .ptr er 0]) S6 fun tg vs S' => tg = .ret ∧ vs = [.ptr t 0, .ptr er 0] ∧ ∃ r e s' m', DoR s kind at' now r e s' ∧ m'.bx.length = s'.mail.length ∧ m'.vt = m.vt ∧ Cx B0 W S' (.obj er (.row [I e]) :: .obj t (.row (if e = 0 ∧ r ≠ -1 then [I r, U (keyAt s' r)] else [I 0, U 0])) :: (mOwn x s' m' ++ R)) (.ob p (.map (ment deedM)) :: .pt b 0 [I kind, I at', I now] :: ro) := fun hb => by
        have hd : DoR s kind at' now (-1) 3 s := .inr (.inl ⟨hk, fun q => hb q.2, rfl, rfl, rfl⟩)
        refine wp_mono (refuse 3 (by omega) hro5 hd H6 _) fun tg vs S' q => ?_
        obtain ⟨q1, q2, q3⟩ := q
        exact ⟨q1, q2, -1, 3, s, m, hd, h.bx, rfl, by rw [if_neg (by omega)]; exact q3⟩
      repeat (first|refine zA ?_|refine zB rfl ?_|refine zC ?_|refine zD ?_|refine zE rfl ?_|refine zF ?_|refine zG ?_|refine zH ?_|refine zI ?_|refine zJ ?_|refine zK ?_|refine zL rfl ?_|refine zN rfl ?_)
      refine wp_ld H6 (o := 1) (cs := [I kind, I at', I now]) (by repeat (first | exact List.Mem.head _ | apply List.Mem.tail)) rfl ?_
      refine wp_lss (fun h0 => ?_) (fun h0 => ?_)
      · repeat (first|refine zA ?_|refine zB rfl ?_|refine zC ?_|refine zD ?_|refine zE rfl ?_|refine zF ?_|refine zG ?_|refine zH ?_|refine zI ?_|refine zJ ?_|refine zK ?_|refine zL rfl ?_|refine zN rfl ?_)
        exact bad (by omega)
      repeat (first|refine zA ?_|refine zB rfl ?_|refine zC ?_|refine zD ?_|refine zE rfl ?_|refine zF ?_|refine zG ?_|refine zH ?_|refine zI ?_|refine zJ ?_|refine zK ?_|refine zL rfl ?_|refine zN rfl ?_)
      refine wp_ld H6 (o := 1) (cs := [I kind, I at', I now]) (by repeat (first | exact List.Mem.head _ | apply List.Mem.tail)) rfl ?_
      repeat (first|refine zA ?_|refine zB rfl ?_|refine zC ?_|refine zD ?_|refine zE rfl ?_|refine zF ?_|refine zG ?_|refine zH ?_|refine zI ?_|refine zJ ?_|refine zK ?_|refine zL rfl ?_|refine zN rfl ?_)
      refine wp_geq (fun h1 => ?_) (fun h1 => ?_)
      · repeat (first|refine zA ?_|refine zB rfl ?_|refine zC ?_|refine zD ?_|refine zE rfl ?_|refine zF ?_|refine zG ?_|refine zH ?_|refine zI ?_|refine zJ ?_|refine zK ?_|refine zL rfl ?_|refine zN rfl ?_)
        exact bad (by omega)
      clear bad
      have hf : mayAt s kind at' now := ⟨hnow, h0, h1⟩
      repeat (first|refine zA ?_|refine zB rfl ?_|refine zC ?_|refine zD ?_|refine zE rfl ?_|refine zF ?_|refine zG ?_|refine zH ?_|refine zI ?_|refine zJ ?_|refine zK ?_|refine zL rfl ?_|refine zN rfl ?_)
      refine wp_ldn H6 (o := 0) (n := 3) (cs := [I kind, I at', I now]) (by repeat (first | exact List.Mem.head _ | apply List.Mem.tail)) rfl ?_
      have H7 : Cx B0 W S6 (mOwn x s m ++ (.obj er (.row [I 0]) :: .obj t (.row [I 0, U 0]) :: R)) (.ob p (.map (ment deedM)) :: .pt b 0 [I kind, I at', I now] :: ro) := H6.perm ((List.Perm.cons _ List.perm_middle.symm).trans List.perm_middle.symm)
      have hfit : Fit s m (.ob p (.map (ment deedM)) :: .pt b 0 [I kind, I at', I now] :: ro) := ⟨h.wf, h.bx, h.jl, hro5 _ h.vt, h.sq, h.fr⟩
      show wp EM (.call _ [.ptr x 0, Deal kind at' now] _) _ _
      refine wp_call (wpC_mono (deed_ok hfit hk hf H7) fun u S7 q => ?_)
      obtain ⟨r, e, s', m', rfl, hop, hbx', hvt', H8⟩ := q
      have hto := hop.told hfit hf
      have H8 : Cx B0 W S7 (.obj er (.row [I 0]) :: .obj t (.row [I 0, U 0]) :: (mOwn x s' m' ++ R)) (.ob p (.map (ment deedM)) :: .pt b 0 [I kind, I at', I now] :: ro) := H8.perm (((List.Perm.cons _ List.perm_middle.symm).trans List.perm_middle.symm).symm)
      repeat (first|refine zA ?_|refine zB rfl ?_|refine zC ?_|refine zD ?_|refine zE rfl ?_|refine zF ?_|refine zG ?_|refine zH ?_|refine zI ?_|refine zJ ?_|refine zK ?_|refine zL rfl ?_|refine zN rfl ?_)
      refine wp_store H8 0 rfl rfl rfl (Nat.le_of_ble_eq_true rfl) fun S8 H9 => ?_
      have H9 : Cx B0 W S8 (.obj er (.row [I e]) :: .obj t (.row [I 0, U 0]) :: (mOwn x s' m' ++ R)) (.ob p (.map (ment deedM)) :: .pt b 0 [I kind, I at', I now] :: ro) := H9
      refine wp_row (j := 0) H9 0 rfl rfl ?_
      -- the last steps
      have last : ∀ {S9 : AH} {a c : AV}, odd a = false → odd c = false → a.cells = [a] → c.cells = [c] → [a, c] = (if e = 0 ∧ r ≠ -1 then [I r, U (keyAt s' r)] else [I 0, U 0]) → Cx B0 W S9 (.obj er (.row [I e]) :: .obj t (.row [a, c]) :: (mOwn x s' m' ++ R)) (.ob p (.map (ment deedM)) :: .pt b 0 [I kind, I at', I now] :: ro) →
          wp EM (.op (.load 2 true (.ptr t 0)) fun v37 => .op (.load 1 false (.ptr er 0)) fun v38 => .op (.store 2 (.ptr t 0) v37) fun v39 => .chk (.load 1 false (.ptr er 0)) v38 (.op (.store 1 (.ptr er 0) v38) fun v40 => .ret .ret [.ptr t 0, .ptr er 0])) S9 fun tg vs S' => tg = .ret ∧ vs = [.ptr t 0, .ptr er 0] ∧ ∃ r e s' m', DoR s kind at' now r e s' ∧ m'.bx.length = s'.mail.length ∧ m'.vt = m.vt ∧ Cx B0 W S' (.obj er (.row [I e]) :: .obj t (.row (if e = 0 ∧ r ≠ -1 then [I r, U (keyAt s' r)] else [I 0, U 0])) :: (mOwn x s' m' ++ R)) (.ob p (.map (ment deedM)) :: .pt b 0 [I kind, I at', I now] :: ro) := by
        intro S9 a c oa oc ca cc hac H10
        refine wp_loadoa (n := 2) (off := 0) H10 1 rfl (Nat.le_of_ble_eq_true rfl) ?_
        refine wp_row (j := 0) H10 0 rfl rfl ?_
        have oac : odd (.agg [a, c]) = false := by
          by_cases hh : e = 0 ∧ r ≠ -1
          · rw [if_pos hh] at hac; cases hac; rfl
          · rw [if_neg hh] at hac; cases hac; rfl
        refine wp_store (n := 2) H10 1 rfl oac rfl (Nat.le_of_ble_eq_true rfl) fun S10 H11 => ?_
        refine wp_cko (o := 0) H11 0 rfl rfl beq_num ?_
        refine wp_store (n := 1) H11 0 rfl rfl rfl (Nat.le_of_ble_eq_true rfl) fun S11 H12 => ?_
        refine wp_ret ⟨rfl, rfl, r, e, s', m', .inr (.inr ⟨hk, hf, hop⟩), hbx', hvt', ?_⟩
        rw [← hac]
        exact H12
      refine wp_eql (fun he => ?_) (fun he => ?_)
      · repeat (first|refine zA ?_|refine zB rfl ?_|refine zC ?_|refine zD ?_|refine zE rfl ?_|refine zF ?_|refine zG ?_|refine zH ?_|refine zI ?_|refine zJ ?_|refine zK ?_|refine zL rfl ?_|refine zN rfl ?_)
        refine wp_neq (fun hne => ?_) (fun hr => ?_)
        · have hrb := hto.2.2.2.2.2 he hne
          obtain ⟨n, rfl⟩ : ∃ n : Nat, r = (n : Int) := ⟨r.toNat, by omega⟩
          have hn : n < s'.jobs.length := by rw [hto.2.1]; omega
          obtain ⟨y, hy, _⟩ := hto.1.job hn
          repeat (first|refine zA ?_|refine zB rfl ?_|refine zC ?_|refine zD ?_|refine zE rfl ?_|refine zF ?_|refine zG ?_|refine zH ?_|refine zI ?_|refine zJ ?_|refine zK ?_|refine zL rfl ?_|refine zN rfl ?_)
          refine wp_bind ?_
          repeat (first|refine zA ?_|refine zB rfl ?_|refine zC ?_|refine zD ?_|refine zE rfl ?_|refine zF ?_|refine zG ?_|refine zH ?_|refine zI ?_|refine zJ ?_|refine zK ?_|refine zL rfl ?_|refine zN rfl ?_)
          refine wp_row (j := 9) H9 2 rfl rfl ?_
          refine wp_at (es := 4) (i := n) H9 4 rfl (by rw [lvs_len]; exact hn) fun id off hp => ?_
          repeat (first|refine zA ?_|refine zB rfl ?_|refine zC ?_|refine zD ?_|refine zE rfl ?_|refine zF ?_|refine zG ?_|refine zH ?_|refine zI ?_|refine zJ ?_|refine zK ?_|refine zL rfl ?_|refine zN rfl ?_)
          refine wp_atL H9 4 rfl hp (lvs_get? hy) (j := 3) rfl ?_
          refine wp_op (v := .agg [I (n : Int), U y.key]) rfl ?_
          refine wp_store H9 1 rfl rfl rfl (Nat.le_of_ble_eq_true rfl) fun S9 H10 => ?_
          refine wp_ret ?_
          show wp EM _ _ _
          exact last rfl rfl rfl rfl (by rw [if_pos ⟨he, hne⟩]; unfold keyAt; rw [Int.toNat_natCast, hy]) H10
        · repeat (first|refine zA ?_|refine zB rfl ?_|refine zC ?_|refine zD ?_|refine zE rfl ?_|refine zF ?_|refine zG ?_|refine zH ?_|refine zI ?_|refine zJ ?_|refine zK ?_|refine zL rfl ?_|refine zN rfl ?_)
          refine wp_bind ?_
          repeat (first|refine zA ?_|refine zB rfl ?_|refine zC ?_|refine zD ?_|refine zE rfl ?_|refine zF ?_|refine zG ?_|refine zH ?_|refine zI ?_|refine zJ ?_|refine zK ?_|refine zL rfl ?_|refine zN rfl ?_)
          refine wp_ret ?_
          show wp EM _ _ _
          exact last rfl rfl rfl rfl (by rw [if_neg fun h => h.2 hr]) H9
      · repeat (first|refine zA ?_|refine zB rfl ?_|refine zC ?_|refine zD ?_|refine zE rfl ?_|refine zF ?_|refine zG ?_|refine zH ?_|refine zI ?_|refine zJ ?_|refine zK ?_|refine zL rfl ?_|refine zN rfl ?_)
        refine wp_bind ?_
        repeat (first|refine zA ?_|refine zB rfl ?_|refine zC ?_|refine zD ?_|refine zE rfl ?_|refine zF ?_|refine zG ?_|refine zH ?_|refine zI ?_|refine zJ ?_|refine zK ?_|refine zL rfl ?_|refine zN rfl ?_)
        refine wp_ret ?_
        show wp EM _ _ _
        exact last rfl rfl rfl rfl (by rw [if_neg fun h => he h.1]) H9
    unfold Try.a18x10 Try.a18x4 Try.a18x9 Try.a18x8 Try.a18x7 Try.a18x6 Try.a18x5 at rest
    have glue : ∀ {S6 : AH} {y : AC}, (wp EM y S6 fun tg vs S' => tg = .ret ∧ vs = [.ptr t 0, .ptr er 0] ∧ ∃ r e s' m', DoR s kind at' now r e s' ∧ m'.bx.length = s'.mail.length ∧ m'.vt = m.vt ∧ Cx B0 W S' (.obj er (.row [I e]) :: .obj t (.row (if e = 0 ∧ r ≠ -1 then [I r, U (keyAt s' r)] else [I 0, U 0])) :: (mOwn x s' m' ++ R)) (.ob p (.map (ment deedM)) :: .pt b 0 [I kind, I at', I now] :: ro)) →
        wp EM y S6 fun tg vs S' => (tg = .normal ∨ tg = .ret) ∧ wp EM (.call (.fn (.func 37) [] [.ptr er 0, .ptr t 0]) [] fun v5 => .op (.load 2 true (nth vs 0)) fun v6 => .op (.load 1 false (nth vs 1)) fun v7 => .ret .ret [v6, v7]) S' fun tg vs S' => tg = .ret ∧ ∃ r e s' m', oneOf vs = .tup [told s' r e, I e] ∧ DoR s kind at' now r e s' ∧ m'.bx.length = s'.mail.length ∧ m'.vt = m.vt ∧ Cx B0 W S' (mOwn x s' m' ++ R) ro := by
      intro S6 y hy
      refine wp_mono hy fun tg vs S' q => ?_
      obtain ⟨rfl, rfl, r, e, s', m', q1, q2, q3, q4⟩ := q
      exact ⟨.inr rfl, fin hro5 q1 q2 q3 q4⟩
    refine wp_eql (fun hk1 => ?_) (fun hk1 => ?_)
    · refine wp_bind ?_
      repeat (first|refine zA ?_|refine zB rfl ?_|refine zC ?_|refine zD ?_|refine zE rfl ?_|refine zF ?_|refine zG ?_|refine zH ?_|refine zI ?_|refine zJ ?_|refine zK ?_|refine zL rfl ?_|refine zN rfl ?_)
      refine wp_row (j := 6) H5 2 rfl rfl ?_
      refine wp_len H5 (hro5 _ h.vt) ?_
      rw [tks_len]
      repeat (first|refine zA ?_|refine zB rfl ?_|refine zC ?_|refine zD ?_|refine zE rfl ?_|refine zF ?_|refine zG ?_|refine zH ?_|refine zI ?_|refine zJ ?_|refine zK ?_|refine zL rfl ?_|refine zN rfl ?_)
      refine wp_ld H5 (o := 2) (cs := [I kind, I at', I now]) (by repeat (first | exact List.Mem.head _ | apply List.Mem.tail)) rfl ?_
      have bad : ¬ (0 ≤ now ∧ now ≤ 1099511627776) → wp EM (.op (.load 2 true (.ptr t 0)) fun a => .op (.store 2 (.ptr t 0) a) fun _ => .op (.store 1 (.ptr er 0) (I 3)) fun _ => .ret .ret [I (s.T.length : Int)]) S5 fun tg vs S' => tg = .ret ∧ vs = [I (s.T.length : Int)] ∧ ∃ r e s' m', DoR s kind at' now r e s' ∧ m'.bx.length = s'.mail.length ∧ m'.vt = m.vt ∧ Cx B0 W S' (.obj er (.row [I e]) :: .obj t (.row (if e = 0 ∧ r ≠ -1 then [I r, U (keyAt s' r)] else [I 0, U 0])) :: (mOwn x s' m' ++ R)) (.ob p (.map (ment deedM)) :: .pt b 0 [I kind, I at', I now] :: ro) := fun hb => by
        have hd : DoR s kind at' now (-1) 3 s := .inr (.inl ⟨hk, fun q => hb (q.1 hk1), rfl, rfl, rfl⟩)
        refine wp_mono (refuse 3 (by omega) hro5 hd H5 _) fun tg vs S' q => ?_
        obtain ⟨q1, q2, q3⟩ := q
        exact ⟨q1, q2, -1, 3, s, m, hd, h.bx, rfl, by rw [if_neg (by omega)]; exact q3⟩
      have em : most s kind = (s.T.length : Int) := if_pos hk1
      rw [em] at rest
      refine wp_lss (fun h0 => ?_) (fun h0 => ?_)
      · repeat (first|refine zA ?_|refine zB rfl ?_|refine zC ?_|refine zD ?_|refine zE rfl ?_|refine zF ?_|refine zG ?_|refine zH ?_|refine zI ?_|refine zJ ?_|refine zK ?_|refine zL rfl ?_|refine zN rfl ?_)
        refine wp_mono (bad (by omega)) fun tg vs S' q => ?_
        obtain ⟨rfl, rfl, r, e, s', m', q1, q2, q3, q4⟩ := q
        exact ⟨.inr rfl, fin hro5 q1 q2 q3 q4⟩
      · repeat (first|refine zA ?_|refine zB rfl ?_|refine zC ?_|refine zD ?_|refine zE rfl ?_|refine zF ?_|refine zG ?_|refine zH ?_|refine zI ?_|refine zJ ?_|refine zK ?_|refine zL rfl ?_|refine zN rfl ?_)
        refine wp_ld H5 (o := 2) (cs := [I kind, I at', I now]) (by repeat (first | exact List.Mem.head _ | apply List.Mem.tail)) rfl ?_
        repeat (first|refine zA ?_|refine zB rfl ?_|refine zC ?_|refine zD ?_|refine zE rfl ?_|refine zF ?_|refine zG ?_|refine zH ?_|refine zI ?_|refine zJ ?_|refine zK ?_|refine zL rfl ?_|refine zN rfl ?_)
        refine wp_gtr (fun h1 => ?_) (fun h1 => ?_)
        · repeat (first|refine zA ?_|refine zB rfl ?_|refine zC ?_|refine zD ?_|refine zE rfl ?_|refine zF ?_|refine zG ?_|refine zH ?_|refine zI ?_|refine zJ ?_|refine zK ?_|refine zL rfl ?_|refine zN rfl ?_)
          refine wp_mono (bad (by omega)) fun tg vs S' q => ?_
          obtain ⟨rfl, rfl, r, e, s', m', q1, q2, q3, q4⟩ := q
          exact ⟨.inr rfl, fin hro5 q1 q2 q3 q4⟩
        · repeat (first|refine zA ?_|refine zB rfl ?_|refine zC ?_|refine zD ?_|refine zE rfl ?_|refine zF ?_|refine zG ?_|refine zH ?_|refine zI ?_|refine zJ ?_|refine zK ?_|refine zL rfl ?_|refine zN rfl ?_)
          refine wp_ret ?_
          show wp EM _ _ _
          exact glue (rest (fun _ => ⟨h0, h1⟩) H5)
    · refine wp_bind ?_
      repeat (first|refine zA ?_|refine zB rfl ?_|refine zC ?_|refine zD ?_|refine zE rfl ?_|refine zF ?_|refine zG ?_|refine zH ?_|refine zI ?_|refine zJ ?_|refine zK ?_|refine zL rfl ?_|refine zN rfl ?_)
      refine wp_ret ?_
      show wp EM _ _ _
      have em : most s kind = s.su.cores := if_neg hk1
      rw [em] at rest
      exact glue (rest (fun h => absurd h hk1) H5)
  · have hg : (mget deedM kind).getD Nf = Nf := by
      have e : mget deedM kind = none := by
        simp only [deedM, mget]
        rw [if_neg (by omega), if_neg (by omega), if_neg (by omega), if_neg (by omega), if_neg (by omega)]
      rw [e]; rfl
    rw [hg]
    refine wp_op (v := B true) (by rfl) ?_
    repeat (first|refine zA ?_|refine zB rfl ?_|refine zC ?_|refine zD ?_|refine zE rfl ?_|refine zF ?_|refine zG ?_|refine zH ?_|refine zI ?_|refine zJ ?_|refine zK ?_|refine zL rfl ?_|refine zN rfl ?_)
    have hd : DoR s kind at' now (-1) 2 s := .inl ⟨hk, rfl, rfl, rfl⟩
    refine wp_mono (refuse 2 (by omega) hro5 hd H5 _) fun tg vs S' q => ?_
    obtain ⟨rfl, rfl, q3⟩ := q
    exact ⟨.inr rfl, fin (m' := m) hro5 hd h.bx rfl (by rw [if_neg (by omega)]; exact q3)⟩
end
end Go.Abs
namespace Go.Abs
open Go.Proofs
set_option maxRecDepth 100000
set_option linter.unusedVariables false
open Tsk (Tk tks tchk tks_len tks_get)
section
variable {B0 S : AH} {W : List Nat} {own R : List Own} {ro : List Fct} {Q : Post} {k : AV → AC} {v : AV} {x : Nat} {s : Ms} {m : Mv}
theorem wp_mkslice1 {M : Mach} {z : AV} {bytes n : Nat} (H : Cx B0 W S own ro) (hb : bytes * n ≤ 140737488355328) (hn : n ≤ 9223372036854775807)
    (h : ∀ t S1, Cx B0 W S1 (.sl t 1 (List.replicate n [z]) :: own) ro → wp M (k t) S1 Q) : wp M (.op (.mkslice 1 bytes [z] (I (n : Int)) (I (n : Int))) k) S Q := by
  have hz : ∀ m : Nat, repZero [z] m = List.replicate m z := by
    intro m
    induction m with
    | zero => rfl
    | succ m ih =>
      show appL [z] (repZero [z] m) = _
      rw [ih, appL_eq]; rfl
  have hnat : nat? (n : Int) = some n := by
    unfold nat?
    rfl
  refine wp_op (v := .sl S.next 0 n n) (S1 := S.new (.row (List.replicate n z))) ?_ (h _ _ (H.addOwn (Grows.new S _) (.inr ⟨S.next, 0, List.replicate n z, .inl ⟨n, by simp, by simp, by simp⟩, get_new_same _ _, ?_, ?_⟩) ?_))
  · show nMkslice 1 bytes [z] (I (n : Int)) (I (n : Int)) S = _
    unfold nMkslice
    simp only [asInt, vInt, hnat]
    have e : (Nat.ble n n && Nat.ble (Nat.mul bytes n) 140737488355328 && Nat.ble n 9223372036854775807 && Nat.beq (lenL [z]) 1) = true := by
      have hb' : Nat.ble (Nat.mul bytes n) 140737488355328 = true := ble_t hb
      rw [ble_t (Nat.le_refl n), hb', ble_t hn]; rfl
    rw [e, hz]
    rfl
  · have : ∀ m : Nat, (List.replicate m [z]).flatten = List.replicate m z := by
      intro m
      induction m with
      | zero => rfl
      | succ m ih => rw [List.replicate_succ, List.flatten_cons, ih]; rfl
    rw [this]; simp
  · intro x hx
    rw [(List.mem_replicate.1 hx).2]; rfl
  · intro j hj
    simp only [Own.ids, vids, List.mem_singleton] at hj
    subst hj
    simp
theorem Cx.addNils (H : Cx B0 W S own ro) (es n : Nat) : Cx B0 W S (List.replicate n (.sl Ns es []) ++ own) ro := by
  induction n with
  | zero => exact H
  | succ n ih => exact ih.addNilS es
theorem Cx.freezeSl (H : Cx B0 W S own ro) {i es : Nat} {u : AV} {L : List (List AV)} (hi : own[i]? = some (.sl u es L)) : Cx B0 W S (own.eraseIdx i) (.sl u es L :: ro) := by
  have hmem := List.mem_of_getElem? hi
  have hsub : ∀ x ∈ own.eraseIdx i, x ∈ own := fun x hx => List.mem_of_mem_eraseIdx hx
  have K : Cx B0 W S (own.eraseIdx i) ro := H.dropOwn (List.eraseIdx_sublist _ _)
  refine K.addRo (ownSl_ok (H.oh _ hmem)) fun j hj => ⟨(H.oi _ hmem j hj).1, fun x hx hj2 => ?_⟩
  have hj : j ∈ (Own.sl u es L).ids := hj
  obtain ⟨m, hm⟩ := List.getElem?_of_mem hx
  have hp := H.od
  rw [List.pairwise_iff_getElem] at hp
  obtain ⟨hi1, hi2⟩ := List.getElem?_eq_some_iff.1 hi
  rw [List.getElem?_eraseIdx] at hm
  split at hm
  · rename_i hlt
    obtain ⟨hm1, hm2⟩ := List.getElem?_eq_some_iff.1 hm
    exact hp m i hm1 hi1 hlt j (by rw [hm2]; exact hj2) (by rw [hi2]; exact hj)
  · rename_i hge
    obtain ⟨hm1, hm2⟩ := List.getElem?_eq_some_iff.1 hm
    exact hp i (m + 1) hi1 hm1 (by omega) j (by rw [hi2]; exact hj) (by rw [hm2]; exact hj2)
/-! ### a new model -/
def jobs0 (n : Nat) : List Lv := (List.range n).map fun (i : Nat) => ⟨(i : Int), 1, 0, 0⟩
def free0 (n : Nat) : List Int := (List.range n).map fun (i : Nat) => (i : Int)
def Ms.part (su : Su) (l : List Tk) (p j r : Nat) : Ms := ⟨su, l, List.replicate p (-1), 0, jobs0 j, free0 j, List.replicate su.cores.toNat [], List.replicate r (-1), List.replicate su.cores.toNat false⟩
def Ms.init (su : Su) (l : List Tk) : Ms := Ms.part su l l.length su.jobs.toNat su.cores.toNat
theorem jobs0_succ (n : Nat) : jobs0 (n + 1) = jobs0 n ++ [⟨(n : Int), 1, 0, 0⟩] := by unfold jobs0; rw [List.range_succ, List.map_append]; rfl
theorem free0_succ (n : Nat) : free0 (n + 1) = free0 n ++ [(n : Int)] := by unfold free0; rw [List.range_succ, List.map_append]; rfl
theorem jobs0_len (n : Nat) : (jobs0 n).length = n := by simp [jobs0]
theorem free0_len (n : Nat) : (free0 n).length = n := by simp [free0]
theorem ints_app (a b : List Int) : ints (a ++ b) = ints a ++ ints b := List.map_append ..
theorem e_buildM {su : Su} {u a b : AV} {eu ea eb : Nat} {Lu La Lb : List (List AV)} (hu : slOk S u eu Lu) (ha : slOk S a ea La) (hb : slOk S b eb Lb) :
    evalOp EM.P (.build [I 0, I 0, I 0, I 0, I 0, I 0, Ns, Ns, I 0, Ns, Ns, Ns, Ns, Ns] [(0, 7, .agg (su.cs u)), (11, 1, a), (13, 1, b)]) S = some (.agg (su.cs u ++ [Ns, I 0, Ns, Ns, a, Ns, b]), S) := by
  rcases hu with ⟨rfl, _⟩ | ⟨_, _, _, (⟨_, _, _, rfl⟩ | ⟨_, _, _, rfl⟩), _⟩ <;> rcases ha with ⟨rfl, _⟩ | ⟨_, _, _, (⟨_, _, _, rfl⟩ | ⟨_, _, _, rfl⟩), _⟩ <;> rcases hb with ⟨rfl, _⟩ | ⟨_, _, _, (⟨_, _, _, rfl⟩ | ⟨_, _, _, rfl⟩), _⟩ <;> rfl
theorem rep_boxes (n : Nat) : List.zipWith boxO (List.replicate n Ns) (List.replicate n []) = List.replicate n (.sl Ns 1 []) := by
  induction n with
  | zero => rfl
  | succ n ih => rw [List.replicate_succ, List.replicate_succ, List.replicate_succ, List.zipWith_cons_cons, ih]; rfl
theorem rep_succ {α : Type} (n : Nat) (a : α) : List.replicate (n + 1) a = List.replicate n a ++ [a] := List.replicate_succ'
theorem bls_rep (n : Nat) (b : Bool) : bls (List.replicate n b) = List.replicate n [B b] := by unfold bls; rw [List.map_replicate]
theorem ptrs_rep (n : Nat) (b : AV) : ptrs (List.replicate n b) = List.replicate n [b] := by unfold ptrs; rw [List.map_replicate]
theorem own_perm (Z Y : List Own) (a c d f g : Own) : (Z ++ (g :: g :: f :: g :: a :: c :: d :: Y)).Perm (a :: g :: f :: g :: d :: g :: c :: (Z ++ Y)) := by
  refine List.Perm.trans (List.perm_append_comm_assoc Z [g, g, f, g, a, c, d] Y) ?_
  refine List.Perm.append_right (Z ++ Y) (l₁ := [g, g, f, g, a, c, d]) (l₂ := [a, g, f, g, d, g, c]) ?_
  have p1 : List.Perm [g, g, f, g, a, c, d] (a :: [g, g, f, g, c, d]) := List.perm_middle (l₁ := [g, g, f, g])
  refine p1.trans (List.Perm.cons a (List.Perm.cons g ?_))
  have p2 : List.Perm [g, f, g, c, d] (f :: [g, g, c, d]) := List.perm_middle (l₁ := [g])
  refine p2.trans (List.Perm.cons f (List.Perm.cons g ?_))
  have p3 : List.Perm [g, c, d] (d :: [g, c]) := List.perm_middle (l₁ := [g, c]) (l₂ := [])
  exact p3
/-- a part of a model's row, written: its slice is another one -/
theorem wp_setP {f : AV} (H : Cx B0 W S own ro) {j : Nat} (hj : j < 14) {c : List AV} (hc : c.length = 14) (hm : own[0]? = some (.obj x (.row c))) (ho : odd f = false) (hf : f.cells = [f]) (h : ∀ S1, Cx B0 W S1 (own.set 0 (.obj x (.row (c.set j f)))) ro → wp EM (k uv) S1 Q) :
    wp EM (.op (.store 1 (.ptr x j) f) k) S Q := wp_set1 H 0 hm (by omega) ho hf h
set_option maxHeartbeats 2000000 in
theorem new_ok {su : Su} {l : List Tk} (hj : -9223372036854775808 ≤ su.jobs) (hv : Fct.sl v 4 (tks l) ∈ ro) (H : Cx B0 W S own ro) : wpC EM (.fn (.func 16) [] []) [.agg (su.cs v)] S fun r S' =>
    (su.chk l ≠ 0 ∧ r = .tup [Np, I (su.chk l)] ∧ Cx B0 W S' own ro) ∨ (su.chk l = 0 ∧ ∃ x m, r = .tup [.ptr x 0, I 0] ∧ m.bx.length = (Ms.init su l).mail.length ∧ Cx B0 W S' (mOwn x (Ms.init su l) m ++ own) (.sl m.vt 4 (tks l) :: ro)) := by
  refine wpC_fn (b := Try.a16) rfl rfl ?_
  unfold Try.a16 Try.a16x16 Try.a16x15 Try.a16x14 Try.a16x13 Try.a16x12 Try.a16x11 Try.a16x10 Try.a16x9 Try.a16x8 Try.a16x7 Try.a16x6 Try.a16x5 Try.a16x4 Try.a16x3 Try.a16x2 Try.a16x1 Try.a16x0
  refine wp_boxOwn H rfl fun b S1 H => ?_
  have H : Cx B0 W S1 (.obj b (.row (su.cs v)) :: own) ro := H
  refine wp_loadoa (n := 7) (off := 0) H 0 rfl (Nat.le_of_ble_eq_true rfl) ?_
  show wp EM (.call _ [.agg (su.cs v)] _) _ _
  refine wp_callV H (checkE_ok hj hv H) fun S2 H => ?_
  refine wp_neq (fun hne => ?_) (fun he => ?_)
  · repeat (first|refine zA ?_|refine zB rfl ?_|refine zC ?_|refine zD ?_|refine zE rfl ?_|refine zF ?_|refine zG ?_|refine zH ?_|refine zI ?_|refine zJ ?_|refine zK ?_|refine zL rfl ?_|refine zN rfl ?_)
    exact wp_ret ⟨rfl, .inl ⟨hne, rfl, H.dropAt 0⟩⟩
  have hfine : su.fine ∧ tchk l = 0 := by
    unfold Su.chk at he
    split at he
    · next hf =>
      split at he
      · next hne => exact absurd he hne
      · next hz => exact ⟨hf, by omega⟩
    · cases he
  have hl32 := (tchk_all hfine.2).1
  have hfi := hfine.1
  unfold Su.fine at hfi
  obtain ⟨nc, hnc⟩ : ∃ n : Nat, su.cores = (n : Int) := ⟨su.cores.toNat, by omega⟩
  obtain ⟨nj, hnj⟩ : ∃ n : Nat, su.jobs = (n : Int) := ⟨su.jobs.toNat, by omega⟩
  repeat (first|refine zA ?_|refine zB rfl ?_|refine zC ?_|refine zD ?_|refine zE rfl ?_|refine zF ?_|refine zG ?_|refine zH ?_|refine zI ?_|refine zJ ?_|refine zK ?_|refine zL rfl ?_|refine zN rfl ?_)
  refine wp_row (j := 6) H 0 rfl rfl ?_
  refine wp_callN H (cloneT_ok (l := l) (H.roSl hv) (by omega)) fun u S3 H => ?_
  have hu0 : slOk S3 u 4 (tks l) := ownSl_ok (H.oh _ (List.Mem.head _))
  have H := H.freezeSl (i := 0) rfl
  have H : Cx B0 W S3 (.obj b (.row (su.cs v)) :: own) (.sl u 4 (tks l) :: ro) := H
  repeat (first|refine zA ?_|refine zB rfl ?_|refine zC ?_|refine zD ?_|refine zE rfl ?_|refine zF ?_|refine zG ?_|refine zH ?_|refine zI ?_|refine zJ ?_|refine zK ?_|refine zL rfl ?_|refine zN rfl ?_)
  refine wp_set1 (j := 6) H 0 rfl (by simp [Su.cs]) (slOk_odd1 hu0).1 (slOk_odd1 hu0).2 fun S4 H => ?_
  have H : Cx B0 W S4 own (.pt b 0 (su.cs u) :: .sl u 4 (tks l) :: ro) := H.freeze (i := 0) (c := su.cs u) rfl
  refine wp_ldn H (o := 0) (n := 7) (cs := su.cs u) (by repeat (first | exact List.Mem.head _ | apply List.Mem.tail)) rfl ?_
  repeat (first|refine zA ?_|refine zB rfl ?_|refine zC ?_|refine zD ?_|refine zE rfl ?_|refine zF ?_|refine zG ?_|refine zH ?_|refine zI ?_|refine zJ ?_|refine zK ?_|refine zL rfl ?_|refine zN rfl ?_)
  refine wp_ld H (o := 0) (cs := su.cs u) (by repeat (first | exact List.Mem.head _ | apply List.Mem.tail)) rfl ?_
  rw [hnc]
  refine wp_mkslice1 (n := nc) H (by omega) (by omega) fun vm S5 H => ?_
  repeat (first|refine zA ?_|refine zB rfl ?_|refine zC ?_|refine zD ?_|refine zE rfl ?_|refine zF ?_|refine zG ?_|refine zH ?_|refine zI ?_|refine zJ ?_|refine zK ?_|refine zL rfl ?_|refine zN rfl ?_)
  refine wp_ld H (o := 0) (cs := su.cs u) (by repeat (first | exact List.Mem.head _ | apply List.Mem.tail)) rfl ?_
  rw [hnc]
  refine wp_mkslice1 (n := nc) H (by omega) (by omega) fun vg S6 H => ?_
  have hu : slOk S6 u 4 (tks l) := H.rh _ (List.Mem.tail _ (List.Mem.head _))
  have hvg : slOk S6 vg 1 (List.replicate nc [B false]) := ownSl_ok (H.oh _ (List.Mem.head _))
  have hvm : slOk S6 vm 1 (List.replicate nc [Ns]) := ownSl_ok (H.oh _ (List.mem_of_getElem? (i := 1) rfl))
  refine wp_op (e_buildM (su := su) hu hvm hvg) ?_
  refine wp_boxOwn H rfl fun x S7 H => ?_
  have H : Cx B0 W S7 (.obj x (.row (su.cs u ++ [Ns, I 0, Ns, Ns, vm, Ns, vg])) :: .sl vg 1 (List.replicate nc [B false]) :: .sl vm 1 (List.replicate nc [Ns]) :: own) (.pt b 0 (su.cs u) :: .sl u 4 (tks l) :: ro) := H
  have H := ((((H.addNilS 1).addNilS 4).addNilS 1).addNilS 1).addNils 1 nc
  have e : su.cores.toNat = nc := by omega
  have ej : su.jobs.toNat = nj := by omega
  have H : Cx B0 W S7 (mOwn x (Ms.part su l 0 0 0) ⟨u, Ns, Ns, Ns, vm, Ns, vg, List.replicate nc Ns⟩ ++ own) (.pt b 0 (su.cs u) :: .sl u 4 (tks l) :: ro) := by
    have q : mOwn x (Ms.part su l 0 0 0) ⟨u, Ns, Ns, Ns, vm, Ns, vg, List.replicate nc Ns⟩ ++ own = Own.obj x (.row (su.cs u ++ [Ns, I 0, Ns, Ns, vm, Ns, vg])) :: .sl Ns 1 [] :: .sl Ns 4 [] :: .sl Ns 1 [] :: .sl vm 1 (List.replicate nc [Ns]) :: .sl Ns 1 [] :: .sl vg 1 (List.replicate nc [B false]) :: (List.replicate nc (.sl Ns 1 []) ++ own) := by
      unfold mOwn Ms.part
      simp only [bls_rep, ptrs_rep, e, rep_boxes]
      rfl
    rw [q]
    exact H.perm (own_perm _ _ _ _ _ _ _)
  repeat (first|refine zA ?_|refine zB rfl ?_|refine zC ?_|refine zD ?_|refine zE rfl ?_|refine zF ?_|refine zG ?_|refine zH ?_|refine zI ?_|refine zJ ?_|refine zK ?_|refine zL rfl ?_|refine zN rfl ?_)
  refine wp_ld H (o := 6) (cs := su.cs u) (by repeat (first | exact List.Mem.head _ | apply List.Mem.tail)) rfl ?_
  refine wp_len H (v := u) (L := tks l) (es := 4) (by repeat (first | exact List.Mem.head _ | apply List.Mem.tail)) ?_
  rw [tks_len]
  -- no task was passed
  refine wp_bind (wp_loop (wpL_for l.length (fun i vs S1 => vs = [I (i : Int)] ∧ ∃ vp, Cx B0 W S1 (mOwn x (Ms.part su l i 0 0) ⟨u, vp, Ns, Ns, vm, Ns, vg, List.replicate nc Ns⟩ ++ own) (.pt b 0 (su.cs u) :: .sl u 4 (tks l) :: ro)) ?_ ?_ ⟨rfl, _, H⟩))
  · clear H
    rintro i vs S8 hlt ⟨rfl, vp, H⟩
    refine wp_lss_t (by omega) ?_
    repeat (first|refine zA ?_|refine zB rfl ?_|refine zC ?_|refine zD ?_|refine zE rfl ?_|refine zF ?_|refine zG ?_|refine zH ?_|refine zI ?_|refine zJ ?_|refine zK ?_|refine zL rfl ?_|refine zN rfl ?_)
    refine wp_bind ?_
    repeat (first|refine zA ?_|refine zB rfl ?_|refine zC ?_|refine zD ?_|refine zE rfl ?_|refine zF ?_|refine zG ?_|refine zH ?_|refine zI ?_|refine zJ ?_|refine zK ?_|refine zL rfl ?_|refine zN rfl ?_)
    refine wp_row (j := 7) H 0 rfl rfl ?_
    have hle : (ints (List.replicate i (-1))).length = i := by rw [ints_len, List.length_replicate]
    refine wp_push (x := I (-1)) (L := ints (List.replicate i (-1))) H 1 rfl rfl rfl rfl (by rw [hle]; unfold maxBytes; omega) (by rw [hle]; unfold maxLenN; omega) fun v1 S9 H => ?_
    have e1 : ints (List.replicate i (-1)) ++ [(I (-1)).cells] = ints (List.replicate (i + 1) (-1)) := by rw [rep_succ, ints_app]; rfl
    rw [e1] at H
    obtain ⟨o1, o2⟩ := slOk_odd1 (ownSl_ok (H.oh (.sl v1 1 (ints (List.replicate (i + 1) (-1)))) (List.mem_of_getElem? (i := 1) rfl)))
    repeat (first|refine zA ?_|refine zB rfl ?_|refine zC ?_|refine zD ?_|refine zE rfl ?_|refine zF ?_|refine zG ?_|refine zH ?_|refine zI ?_|refine zJ ?_|refine zK ?_|refine zL rfl ?_|refine zN rfl ?_)
    refine wp_set1 (j := 7) H 0 rfl (by simp [Ms.row, Su.cs]) o1 o2 fun S10 H => ?_
    refine wp_ret ?_
    show wp EM _ _ _
    exact wp_add64 (by omega) (by omega) (wp_ret (.inl ⟨rfl, rfl, v1, H⟩))
  clear H
  rintro vs S8 ⟨rfl, vp, H⟩
  refine wp_lss_f (by omega) ?_
  repeat (first|refine zA ?_|refine zB rfl ?_|refine zC ?_|refine zD ?_|refine zE rfl ?_|refine zF ?_|refine zG ?_|refine zH ?_|refine zI ?_|refine zJ ?_|refine zK ?_|refine zL rfl ?_|refine zN rfl ?_)
  refine wp_ret ⟨by simp, ?_⟩
  show wp EM _ _ _
  repeat (first|refine zA ?_|refine zB rfl ?_|refine zC ?_|refine zD ?_|refine zE rfl ?_|refine zF ?_|refine zG ?_|refine zH ?_|refine zI ?_|refine zJ ?_|refine zK ?_|refine zL rfl ?_|refine zN rfl ?_)
  refine wp_ld H (o := 1) (cs := su.cs u) (by repeat (first | exact List.Mem.head _ | apply List.Mem.tail)) rfl ?_
  rw [hnj]
  -- all jobs are free
  refine wp_bind (wp_loop (wpL_for nj (fun i vs S1 => vs = [I (i : Int)] ∧ ∃ vj vf, Cx B0 W S1 (mOwn x (Ms.part su l l.length i 0) ⟨u, vp, vj, vf, vm, Ns, vg, List.replicate nc Ns⟩ ++ own) (.pt b 0 (su.cs u) :: .sl u 4 (tks l) :: ro)) ?_ ?_ ⟨rfl, _, _, H⟩))
  · clear H
    rintro i vs S8 hlt ⟨rfl, vj, vf, H⟩
    refine wp_lss_t (by omega) ?_
    repeat (first|refine zA ?_|refine zB rfl ?_|refine zC ?_|refine zD ?_|refine zE rfl ?_|refine zF ?_|refine zG ?_|refine zH ?_|refine zI ?_|refine zJ ?_|refine zK ?_|refine zL rfl ?_|refine zN rfl ?_)
    refine wp_bind ?_
    repeat (first|refine zA ?_|refine zB rfl ?_|refine zC ?_|refine zD ?_|refine zE rfl ?_|refine zF ?_|refine zG ?_|refine zH ?_|refine zI ?_|refine zJ ?_|refine zK ?_|refine zL rfl ?_|refine zN rfl ?_)
    refine wp_row (j := 9) H 0 rfl rfl ?_
    refine wp_op (v := .agg (Lv.cs ⟨i, 1, 0, 0⟩)) rfl ?_
    have hle : (lvs (jobs0 i)).length = i := by rw [lvs_len, jobs0_len]
    refine wp_push (x := .agg (Lv.cs ⟨i, 1, 0, 0⟩)) (L := lvs (jobs0 i)) H 2 rfl rfl rfl rfl (by rw [hle]; unfold maxBytes; omega) (by rw [hle]; unfold maxLenN; omega) fun v1 S9 H => ?_
    have e1 : lvs (jobs0 i) ++ [(AV.agg (Lv.cs ⟨i, 1, 0, 0⟩)).cells] = lvs (jobs0 (i + 1)) := by rw [jobs0_succ, lvs_app]; rfl
    rw [e1] at H
    obtain ⟨o1, o2⟩ := slOk_odd1 (ownSl_ok (H.oh (.sl v1 4 (lvs (jobs0 (i + 1)))) (List.mem_of_getElem? (i := 2) rfl)))
    repeat (first|refine zA ?_|refine zB rfl ?_|refine zC ?_|refine zD ?_|refine zE rfl ?_|refine zF ?_|refine zG ?_|refine zH ?_|refine zI ?_|refine zJ ?_|refine zK ?_|refine zL rfl ?_|refine zN rfl ?_)
    refine wp_set1 (j := 9) H 0 rfl (by simp [Ms.row, Su.cs]) o1 o2 fun S10 H => ?_
    repeat (first|refine zA ?_|refine zB rfl ?_|refine zC ?_|refine zD ?_|refine zE rfl ?_|refine zF ?_|refine zG ?_|refine zH ?_|refine zI ?_|refine zJ ?_|refine zK ?_|refine zL rfl ?_|refine zN rfl ?_)
    refine wp_row (j := 10) H 0 rfl rfl ?_
    have hle : (ints (free0 i)).length = i := by rw [ints_len, free0_len]
    refine wp_push (x := I (i : Int)) (L := ints (free0 i)) H 3 rfl rfl rfl rfl (by rw [hle]; unfold maxBytes; omega) (by rw [hle]; unfold maxLenN; omega) fun v2 S11 H => ?_
    have e2 : ints (free0 i) ++ [(I (i : Int)).cells] = ints (free0 (i + 1)) := by rw [free0_succ, ints_app]; rfl
    rw [e2] at H
    obtain ⟨o3, o4⟩ := slOk_odd1 (ownSl_ok (H.oh (.sl v2 1 (ints (free0 (i + 1)))) (List.mem_of_getElem? (i := 3) rfl)))
    repeat (first|refine zA ?_|refine zB rfl ?_|refine zC ?_|refine zD ?_|refine zE rfl ?_|refine zF ?_|refine zG ?_|refine zH ?_|refine zI ?_|refine zJ ?_|refine zK ?_|refine zL rfl ?_|refine zN rfl ?_)
    refine wp_set1 (j := 10) H 0 rfl (by simp [Ms.row, Su.cs]) o3 o4 fun S12 H => ?_
    refine wp_ret ?_
    show wp EM _ _ _
    exact wp_add64 (by omega) (by omega) (wp_ret (.inl ⟨rfl, rfl, v1, v2, H⟩))
  clear H
  rintro vs S8 ⟨rfl, vj, vf, H⟩
  refine wp_lss_f (by omega) ?_
  repeat (first|refine zA ?_|refine zB rfl ?_|refine zC ?_|refine zD ?_|refine zE rfl ?_|refine zF ?_|refine zG ?_|refine zH ?_|refine zI ?_|refine zJ ?_|refine zK ?_|refine zL rfl ?_|refine zN rfl ?_)
  refine wp_ret ⟨by simp, ?_⟩
  show wp EM _ _ _
  repeat (first|refine zA ?_|refine zB rfl ?_|refine zC ?_|refine zD ?_|refine zE rfl ?_|refine zF ?_|refine zG ?_|refine zH ?_|refine zI ?_|refine zJ ?_|refine zK ?_|refine zL rfl ?_|refine zN rfl ?_)
  refine wp_ld H (o := 0) (cs := su.cs u) (by repeat (first | exact List.Mem.head _ | apply List.Mem.tail)) rfl ?_
  rw [hnc]
  -- nothing is run
  refine wp_bind (wp_loop (wpL_for nc (fun i vs S1 => vs = [I (i : Int)] ∧ ∃ vr, Cx B0 W S1 (mOwn x (Ms.part su l l.length nj i) ⟨u, vp, vj, vf, vm, vr, vg, List.replicate nc Ns⟩ ++ own) (.pt b 0 (su.cs u) :: .sl u 4 (tks l) :: ro)) ?_ ?_ ⟨rfl, _, H⟩))
  · clear H
    rintro i vs S8 hlt ⟨rfl, vr, H⟩
    refine wp_lss_t (by omega) ?_
    repeat (first|refine zA ?_|refine zB rfl ?_|refine zC ?_|refine zD ?_|refine zE rfl ?_|refine zF ?_|refine zG ?_|refine zH ?_|refine zI ?_|refine zJ ?_|refine zK ?_|refine zL rfl ?_|refine zN rfl ?_)
    refine wp_bind ?_
    repeat (first|refine zA ?_|refine zB rfl ?_|refine zC ?_|refine zD ?_|refine zE rfl ?_|refine zF ?_|refine zG ?_|refine zH ?_|refine zI ?_|refine zJ ?_|refine zK ?_|refine zL rfl ?_|refine zN rfl ?_)
    refine wp_row (j := 12) H 0 rfl rfl ?_
    have hle : (ints (List.replicate i (-1))).length = i := by rw [ints_len, List.length_replicate]
    refine wp_push (x := I (-1)) (L := ints (List.replicate i (-1))) H 5 rfl rfl rfl rfl (by rw [hle]; unfold maxBytes; omega) (by rw [hle]; unfold maxLenN; omega) fun v1 S9 H => ?_
    have e1 : ints (List.replicate i (-1)) ++ [(I (-1)).cells] = ints (List.replicate (i + 1) (-1)) := by rw [rep_succ, ints_app]; rfl
    rw [e1] at H
    obtain ⟨o1, o2⟩ := slOk_odd1 (ownSl_ok (H.oh (.sl v1 1 (ints (List.replicate (i + 1) (-1)))) (List.mem_of_getElem? (i := 5) rfl)))
    repeat (first|refine zA ?_|refine zB rfl ?_|refine zC ?_|refine zD ?_|refine zE rfl ?_|refine zF ?_|refine zG ?_|refine zH ?_|refine zI ?_|refine zJ ?_|refine zK ?_|refine zL rfl ?_|refine zN rfl ?_)
    refine wp_set1 (j := 12) H 0 rfl (by simp [Ms.row, Su.cs]) o1 o2 fun S10 H => ?_
    refine wp_ret ?_
    show wp EM _ _ _
    exact wp_add64 (by omega) (by omega) (wp_ret (.inl ⟨rfl, rfl, v1, H⟩))
  clear H
  rintro vs S8 ⟨rfl, vr, H⟩
  refine wp_lss_f (by omega) ?_
  repeat (first|refine zA ?_|refine zB rfl ?_|refine zC ?_|refine zD ?_|refine zE rfl ?_|refine zF ?_|refine zG ?_|refine zH ?_|refine zI ?_|refine zJ ?_|refine zK ?_|refine zL rfl ?_|refine zN rfl ?_)
  refine wp_ret ⟨by simp, ?_⟩
  show wp EM _ _ _
  refine wp_ret ⟨rfl, .inr ⟨by omega, x, ⟨u, vp, vj, vf, vm, vr, vg, List.replicate nc Ns⟩, rfl, ?_, ?_⟩⟩
  · show (List.replicate nc Ns).length = (List.replicate su.cores.toNat ([] : List Int)).length
    rw [List.length_replicate, List.length_replicate, e]
  · unfold Ms.init
    rw [e, ej]
    exact H.tl
end
end Go.Abs
namespace Go.Abs
open Go.Proofs
set_option maxRecDepth 100000
set_option linter.unusedVariables false
open Tsk (Tk tks tchk tone tks_len tks_get)
section
variable {B0 S : AH} {W : List Nat} {own : List Own} {ro : List Fct} {Q : Post} {k : AV → AC}
theorem wp_Pick (H : Cx B0 W S own ro) {a n : Int} (hn : n ≤ 9223372036854775807) (h : ∀ S, Cx B0 W S own ro → wp EM (k (I (pick a n))) S Q) : wp EM (.call (.fn (.func 17) [] []) [I a, I n] k) S Q :=
  wp_call (wpC_mono (pick_ok rfl rfl hn) fun r S1 ⟨hr, hs⟩ => by subst hr; subst hs; exact h _ H)
theorem pick_bd {a n : Int} (h : 0 < n) : 0 ≤ pick a n ∧ pick a n < n := by
  unfold pick
  rw [if_neg (by omega)]
  exact ⟨Int.emod_nonneg _ (by omega), Int.emod_lt_of_pos _ h⟩
theorem ints_getE {l : List Int} {i : Nat} (h : i < l.length) : (ints l)[i]? = some [I l[i]] := by simp [ints, h]
/-- a number out of one's own list -/
theorem wp_ownI {v : AV} {l : List Int} {i : Nat} (H : Cx B0 W S own ro) (n : Nat) (hm : own[n]? = some (.sl v 1 (ints l))) (hi : i < l.length) (h : wp EM (k (I l[i])) S Q) : wp EM (.op (.saddr 1 v (I (i : Int))) fun p => .op (.load 1 false p) k) S Q := by
  refine wp_saddro H n hm (ints_getE hi) fun id off hp => ?_
  have := wp_loadF (M := EM) (k := k) (S := S) (Q := Q) (j := 0) hp rfl h
  exact this
end
section
variable {M : Mach} {S : AH} {Q : Post} {k : AV → AC}
theorem wp_remE {a b : Int} (h0 : 0 ≤ a) (hb : b ≠ 0) (h : wp M (k (I (a % b))) S Q) : wp M (.op (.bin .rem (I a) (I b)) k) S Q := wp_rem hb (by rw [Int.tmod_eq_emod_of_nonneg h0]; exact h)
theorem wp_quoE {a b : Int} (h0 : 0 ≤ a) (hb : 0 < b) (hm : a ≤ 9223372036854775807) (h : wp M (k (I (a / b))) S Q) : wp M (.op (.bin .quo (I a) (I b)) k) S Q := by
  have h1 : 0 ≤ a / b := Int.ediv_nonneg h0 (by omega)
  have h2 : a / b ≤ a := Int.ediv_le_self _ h0
  exact wp_quo (c := a / b) (by omega) (by rw [Int.tdiv_eq_ediv_of_nonneg h0]; exact wrap64 (by omega) (by omega)) h
end
/-- a small setup -/
def Su.small (s : Su) : Prop := 1 ≤ s.cores ∧ s.cores ≤ 4 ∧ 1 ≤ s.jobs ∧ s.jobs ≤ 6 ∧ s.jobs + 1 ≤ s.nodes ∧ s.nodes ≤ s.jobs + 2 ∧ 1 ≤ s.height ∧ s.height ≤ 3 ∧ 1 ≤ s.room ∧ s.room ≤ 4 ∧ s.limit = 4294967295
def Tk.small (x : Tk) : Prop := x.kind = 2 ∧ 0 ≤ x.prio ∧ x.prio ≤ 6 ∧ 0 ≤ x.every ∧ x.every ≤ 3 ∧ x.first = 0
theorem tone_small {x : Tk} (h : Tk.small x) : tone x = 0 := by
  unfold Tk.small at h
  unfold tone
  rw [if_neg (by omega), if_neg (by omega)]
theorem tchk_small : ∀ {l : List Tk}, (∀ x ∈ l, Tk.small x) → l.length ≤ 32 → tchk l = 0 := by
  intro l h hl
  unfold tchk
  rw [if_neg (by omega)]
  clear hl
  induction l with
  | nil => rfl
  | cons x r ih =>
    unfold Tsk.tfirst
    rw [tone_small (h x (by simp)), ih fun y hy => h y (by simp [hy])]
    simp
theorem small_chk {s : Su} {l : List Tk} (hs : s.small) (hl : ∀ x ∈ l, Tk.small x) (h1 : 1 ≤ l.length) (h2 : l.length ≤ 4) : s.chk l = 0 := by
  unfold Su.small at hs
  unfold Su.chk
  rw [if_pos (by unfold Su.fine; omega), tchk_small hl (by omega), if_neg (by simp), if_neg (by omega)]
theorem sized_ok {S : AH} {v : AV} {l : List Int} (hv : RoSl S v 1 (ints l)) : wpC EM (.fn (.func 15) [] []) [v] S fun r S' => ∃ (s : Su) (u : AV) (tl : List Tk), r = .agg (s.cs u) ∧ s.small ∧ (∀ x ∈ tl, Tk.small x) ∧ 1 ≤ tl.length ∧ tl.length ≤ 4 ∧ Cx S [] S' [.sl u 4 (tks tl)] [] := by
  refine wpC_fn (b := Try.a15) rfl rfl ?_
  have H := Cx.ro1 hv
  unfold Try.a15 Try.a15x15 Try.a15x14 Try.a15x13 Try.a15x12 Try.a15x11 Try.a15x10 Try.a15x9 Try.a15x8 Try.a15x7 Try.a15x6 Try.a15x5 Try.a15x4 Try.a15x3 Try.a15x2 Try.a15x1 Try.a15x0
  refine wp_fin ?_
  refine wp_alloc H fun q S1 H => ?_
  refine wp_mkslice1 (n := 12) H (by omega) (by omega) fun vn S2 H => ?_
  refine wp_bind (wp_loop (wpL_inv (fun m vs S1 => ∃ (i : Nat) (N : List Int), vs = [I (i : Int)] ∧ i ≤ 12 ∧ m = 12 - i ∧ N.length = 12 ∧ (∀ a ∈ N, 0 ≤ a ∧ a < 1000) ∧ Cx S [] S1 [.sl vn 1 (ints N), .obj q (.row [I 0, I 0, I 0, I 0, I 0, I 0, Ns])] [.sl v 1 (ints l)]) ?_ 12 ⟨0, List.replicate 12 0, rfl, by omega, by omega, by simp, by simp, H⟩))
  clear H
  rintro m vs S3 ⟨i, N, rfl, hi, rfl, hN, hall, H⟩
  have hb : ∀ (j : Nat) (hj : j < N.length), 0 ≤ N[j] ∧ N[j] < 1000 := fun j hj => hall _ (List.getElem_mem hj)
  refine wp_leno H 0 rfl ?_
  rw [ints_len, hN]
  -- behind the loop
  have fin : ∀ S3, Cx S [] S3 [.sl vn 1 (ints N), .obj q (.row [I 0, I 0, I 0, I 0, I 0, I 0, Ns])] [.sl v 1 (ints l)] → wp EM (Try.a15x15 (.ptr q 0) vn) S3 fun t vs S' => (t = .normal ∨ t = .ret) ∧ wp EM (.op (.load 7 true (nth vs 0)) fun v2 => .ret .ret [v2]) S' fun t vs S' => t = .ret ∧ ∃ (s : Su) (u : AV) (tl : List Tk), oneOf vs = .agg (s.cs u) ∧ s.small ∧ (∀ x ∈ tl, Tk.small x) ∧ 1 ≤ tl.length ∧ tl.length ≤ 4 ∧ Cx S [] S' [.sl u 4 (tks tl)] [] := by
    intro S3 H
    have h0 := hb 0 (by omega)
    have h1 := hb 1 (by omega)
    have h2 := hb 2 (by omega)
    have h3 := hb 3 (by omega)
    have h4 := hb 4 (by omega)
    have h5 := hb 5 (by omega)
    try unfold Try.a15x15
    try unfold Try.a15x14
    try unfold Try.a15x13
    try unfold Try.a15x12
    try unfold Try.a15x11
    try unfold Try.a15x10
    try unfold Try.a15x9
    try unfold Try.a15x8
    try unfold Try.a15x7
    try unfold Try.a15x6
    try unfold Try.a15x5
    try unfold Try.a15x4
    try unfold Try.a15x3
    try unfold Try.a15x2
    try unfold Try.a15x1
    try unfold Try.a15x0
    refine wp_ownI (i := 0) H 0 rfl (by omega) ?_
    refine wp_remE h0.1 (by omega) ?_
    refine wp_add64 (by omega) (by omega) ?_
    refine wp_ownI (i := 1) H 0 rfl (by omega) ?_
    refine wp_remE h1.1 (by omega) ?_
    refine wp_add64 (by omega) (by omega) ?_
    refine wp_ownI (i := 2) H 0 rfl (by omega) ?_
    refine wp_remE h2.1 (by omega) ?_
    refine wp_add64 (by omega) (by omega) ?_
    refine wp_ownI (i := 3) H 0 rfl (by omega) ?_
    refine wp_remE h3.1 (by omega) ?_
    refine wp_add64 (by omega) (by omega) ?_
    refine wp_op (o := .build _ _) rfl ?_
    refine wp_alloc H fun x S4 H => ?_
    refine wp_st H 0 rfl rfl rfl rfl fun S5 H => ?_
    repeat (first|refine zA ?_|refine zB rfl ?_|refine zC ?_|refine zD ?_|refine zE rfl ?_|refine zF ?_|refine zG ?_|refine zH ?_|refine zI ?_|refine zJ ?_|refine zK ?_|refine zL rfl ?_|refine zN rfl ?_)
    refine wp_loado H 0 rfl rfl ?_
    refine wp_add64 (by omega) (by omega) ?_
    refine wp_ownI (i := 4) H 1 rfl (by omega) ?_
    refine wp_remE h4.1 (by omega) ?_
    refine wp_add64 (by omega) (by omega) ?_
    repeat (first|refine zA ?_|refine zB rfl ?_|refine zC ?_|refine zD ?_|refine zE rfl ?_|refine zF ?_|refine zG ?_|refine zH ?_|refine zI ?_|refine zJ ?_|refine zK ?_|refine zL rfl ?_|refine zN rfl ?_)
    refine wp_st H 0 rfl rfl rfl rfl fun S6 H => ?_
    generalize hs : Su.mk (1 + N[0] % 4) (1 + N[1] % 6) (1 + N[1] % 6 + 1 + N[4] % 2) (1 + N[2] % 3) (1 + N[3] % 4) 4294967295 = s
    have hsm : s.small := by subst hs; unfold Su.small; dsimp only; omega
    have H : Cx S [] S6 [.obj x (.row (s.cs Ns)), .sl vn 1 (ints N), .obj q (.row [I 0, I 0, I 0, I 0, I 0, I 0, Ns])] [.sl v 1 (ints l)] := by
      subst hs; exact H
    have H := H.addNilS 4
    refine wp_bind (wp_loop (wpL_inv (fun m vs S1 => ∃ (i : Nat) (u : AV) (tl : List Tk), vs = [I (i : Int)] ∧ 5 ≤ i ∧ i ≤ 9 ∧ m = 9 - i ∧ tl.length = i - 5 ∧ (6 ≤ i → (i : Int) ≤ 6 + N[5] % 4) ∧ (∀ x ∈ tl, Tk.small x) ∧ Cx S [] S1 [.sl u 4 (tks tl), .obj x (.row (s.cs u)), .sl vn 1 (ints N), .obj q (.row [I 0, I 0, I 0, I 0, I 0, I 0, Ns])] [.sl v 1 (ints l)]) ?_ 4 ⟨5, Ns, [], rfl, by omega, by omega, by omega, rfl, by omega, by simp, H⟩))
    clear H
    rintro m vs S7 ⟨i, u, tl, rfl, hi5, hi8, rfl, htl, hi6, htl2, H⟩
    refine wp_ownI (i := 5) H 2 rfl (by omega) ?_
    refine wp_remE h5.1 (by omega) ?_
    refine wp_add64 (by omega) (by omega) ?_
    refine wp_lss (fun hlt => ?_) (fun hge => ?_)
    · have hp := hb (i + 1) (by omega)
      repeat (first|refine zA ?_|refine zB rfl ?_|refine zC ?_|refine zD ?_|refine zE rfl ?_|refine zF ?_|refine zG ?_|refine zH ?_|refine zI ?_|refine zJ ?_|refine zK ?_|refine zL rfl ?_|refine zN rfl ?_)
      refine wp_bind ?_
      repeat (first|refine zA ?_|refine zB rfl ?_|refine zC ?_|refine zD ?_|refine zE rfl ?_|refine zF ?_|refine zG ?_|refine zH ?_|refine zI ?_|refine zJ ?_|refine zK ?_|refine zL rfl ?_|refine zN rfl ?_)
      refine wp_loado H 1 rfl rfl ?_
      refine wp_add64 (by omega) (by omega) ?_
      have e1 : ((i : Int) + 1) = ((i + 1 : Nat) : Int) := by omega
      rw [e1]
      refine wp_ownI (i := i + 1) H 2 rfl (by omega) ?_
      refine wp_remE hp.1 (by omega) ?_
      refine wp_add64 (by omega) (by omega) ?_
      rw [e1]
      refine wp_ownI (i := i + 1) H 2 rfl (by omega) ?_
      refine wp_quoE hp.1 (by omega) (by omega) ?_
      refine wp_remE (Int.ediv_nonneg hp.1 (by omega)) (by omega) ?_
      refine wp_op (v := .agg (Tk.cs ⟨2, N[i + 1] % 7, N[i + 1] / 7 % 4, 0⟩)) rfl ?_
      refine wp_push (L := tks tl) (x := .agg (Tk.cs ⟨2, N[i + 1] % 7, N[i + 1] / 7 % 4, 0⟩)) H 0 rfl rfl rfl rfl (by rw [Tsk.tks_len]; unfold maxBytes; omega) (by rw [Tsk.tks_len]; unfold maxLenN; omega) fun u1 S8 H => ?_
      have hs1 := ownSl_ok (H.oh _ (List.Mem.head _))
      repeat (first|refine zA ?_|refine zB rfl ?_|refine zC ?_|refine zD ?_|refine zE rfl ?_|refine zF ?_|refine zG ?_|refine zH ?_|refine zI ?_|refine zJ ?_|refine zK ?_|refine zL rfl ?_|refine zN rfl ?_)
      refine wp_st H 1 rfl (slOk_odd1 hs1).1 (by rw [(slOk_odd1 hs1).2]; rfl) rfl fun S9 H => ?_
      rw [(slOk_odd1 hs1).2] at H
      refine wp_ret ?_
      show wp EM _ _ _
      refine wp_add64 (by omega) (by omega) (wp_ret (.inl ⟨rfl, 9 - (i + 1), by omega, i + 1, u1, tl ++ [⟨2, N[i + 1] % 7, N[i + 1] / 7 % 4, 0⟩], rfl, by omega, by omega, rfl, by simp; omega, by omega, ?_, ?_⟩))
      · intro y hy
        rcases List.mem_append.1 hy with hy | hy
        · exact htl2 y hy
        · rw [List.mem_singleton.1 hy]
          unfold Tk.small; dsimp only; omega
      · have e2 : tks (tl ++ [⟨2, N[i + 1] % 7, N[i + 1] / 7 % 4, 0⟩]) = tks tl ++ [(AV.agg (Tk.cs ⟨2, N[i + 1] % 7, N[i + 1] / 7 % 4, 0⟩)).cells] := by unfold Tsk.tks; rw [List.map_append]; rfl
        rw [e2]
        exact H
    · repeat (first|refine zA ?_|refine zB rfl ?_|refine zC ?_|refine zD ?_|refine zE rfl ?_|refine zF ?_|refine zG ?_|refine zH ?_|refine zI ?_|refine zJ ?_|refine zK ?_|refine zL rfl ?_|refine zN rfl ?_)
      refine wp_ret (.inr ⟨by simp, ?_⟩)
      show wp EM _ _ _
      refine wp_loadoa (n := 7) H 1 rfl (Nat.le_of_ble_eq_true rfl) ?_
      refine wp_st H 3 rfl rfl rfl rfl fun S8 H => ?_
      refine wp_ret ⟨.inr rfl, ?_⟩
      have H : Cx S [] S8 [.sl u 4 (tks tl), .obj x (.row (s.cs u)), .sl vn 1 (ints N), .obj q (.row (s.cs u))] [.sl v 1 (ints l)] := H
      refine wp_loadoa (n := 7) H 3 rfl (Nat.le_of_ble_eq_true rfl) ?_
      exact wp_ret ⟨rfl, s, u, tl, rfl, hsm, htl2, by omega, by omega, (((H.dropAt 1).dropAt 1).dropAt 1).tl⟩
  refine wp_lss (fun hlt => ?_) (fun hge => ?_)
  · have hlt : i < 12 := by omega
    repeat (first|refine zA ?_|refine zB rfl ?_|refine zC ?_|refine zD ?_|refine zE rfl ?_|refine zF ?_|refine zG ?_|refine zH ?_|refine zI ?_|refine zJ ?_|refine zK ?_|refine zL rfl ?_|refine zN rfl ?_)
    refine wp_len H (by repeat (first | exact List.Mem.head _ | apply List.Mem.tail)) ?_
    rw [ints_len]
    repeat (first|refine zA ?_|refine zB rfl ?_|refine zC ?_|refine zD ?_|refine zE rfl ?_|refine zF ?_|refine zG ?_|refine zH ?_|refine zI ?_|refine zJ ?_|refine zK ?_|refine zL rfl ?_|refine zN rfl ?_)
    refine wp_lss (fun hl2 => ?_) (fun hg2 => ?_)
    · have hl2 : i < l.length := by omega
      repeat (first|refine zA ?_|refine zB rfl ?_|refine zC ?_|refine zD ?_|refine zE rfl ?_|refine zF ?_|refine zG ?_|refine zH ?_|refine zI ?_|refine zJ ?_|refine zK ?_|refine zL rfl ?_|refine zN rfl ?_)
      refine wp_bind ?_
      refine wp_saddr (v := v) (L := ints l) (i := i) (x := [I l[i]]) H (by repeat (first | exact List.Mem.head _ | apply List.Mem.tail)) (ints_getE hl2) fun p1 o1 H1 => ?_
      refine wp_load0 H1 (by repeat (first | exact List.Mem.head _ | apply List.Mem.tail)) rfl ?_
      refine wp_Pick H1.tl (by omega) fun S4 H => ?_
      have hp := pick_bd (a := l[i]) (n := 1000) (by omega)
      refine wp_storeE (i := i) (y := I (pick l[i] 1000)) H 0 rfl (by rw [ints_len]; omega) rfl rfl fun S5 H => ?_
      have H : Cx S [] S5 [.sl vn 1 ((ints N).set i [I (pick l[i] 1000)]), .obj q (.row [I 0, I 0, I 0, I 0, I 0, I 0, Ns])] [.sl v 1 (ints l)] := H
      rw [ints_set] at H
      refine wp_ret ?_
      show wp EM _ _ _
      refine wp_add64 (by omega) (by omega) (wp_ret (.inl ⟨rfl, 12 - (i + 1), by omega, i + 1, N.set i (pick l[i] 1000), rfl, by omega, rfl, by simpa using hN, ?_, H⟩))
      intro a ha
      rcases List.mem_or_eq_of_mem_set ha with ha | rfl
      · exact hall a ha
      · exact hp
    · repeat (first|refine zA ?_|refine zB rfl ?_|refine zC ?_|refine zD ?_|refine zE rfl ?_|refine zF ?_|refine zG ?_|refine zH ?_|refine zI ?_|refine zJ ?_|refine zK ?_|refine zL rfl ?_|refine zN rfl ?_)
      refine wp_ret (.inr ⟨by simp, ?_⟩)
      exact fin _ H
  · repeat (first|refine zA ?_|refine zB rfl ?_|refine zC ?_|refine zD ?_|refine zE rfl ?_|refine zF ?_|refine zG ?_|refine zH ?_|refine zI ?_|refine zJ ?_|refine zK ?_|refine zL rfl ?_|refine zN rfl ?_)
    refine wp_ret (.inr ⟨by simp, ?_⟩)
    exact fin _ H
/-- an operation, by a number -/
def dKind (n : Int) : Int := 1 + n % 5
def dAt (s : Su) (l : List Tk) (n : Int) : Int := if dKind n = 1 then n / 5 % l.length else n / 5 % s.cores
theorem deal_ok {S : AH} {s : Su} {u : AV} {l : List Tk} {n now : Int} (hc : 1 ≤ s.cores ∧ s.cores ≤ 64) (hl : 1 ≤ l.length ∧ l.length ≤ 32) (hn : 0 ≤ n ∧ n < 100000) (hv : RoSl S u 4 (tks l)) : wpC EM (.fn (.func 19) [] []) [.agg (s.cs u), I n, I now] S fun r S' => r = Deal (dKind n) (dAt s l n) now ∧ Grows S S' := by
  refine wpC_fn (b := Try.a19) rfl rfl ?_
  have H := Cx.ro1 hv
  unfold Try.a19 Try.a19x4 Try.a19x3 Try.a19x2 Try.a19x1 Try.a19x0
  have hq : 0 ≤ n / 5 := Int.ediv_nonneg hn.1 (by omega)
  refine wp_fin ?_
  refine wp_box H rfl fun b S1 H => ?_
  have H : Cx S [] S1 [] [.pt b 0 (s.cs u), .sl u 4 (tks l)] := H
  refine wp_alloc H fun q S2 H => ?_
  refine wp_remE hn.1 (by omega) ?_
  refine wp_add64 (by omega) (by omega) ?_
  refine wp_quoE hn.1 (by omega) (by omega) ?_
  repeat (first|refine zA ?_|refine zB rfl ?_|refine zC ?_|refine zD ?_|refine zE rfl ?_|refine zF ?_|refine zG ?_|refine zH ?_|refine zI ?_|refine zJ ?_|refine zK ?_|refine zL rfl ?_|refine zN rfl ?_)
  refine wp_ld H (o := 0) (cs := s.cs u) (by repeat (first | exact List.Mem.head _ | apply List.Mem.tail)) rfl ?_
  refine wp_remE hq (by omega) ?_
  refine wp_op (v := .agg [I (1 + n % 5), I (n / 5 % s.cores), I now]) rfl ?_
  refine wp_alloc H fun d S3 H => ?_
  refine wp_store H 0 rfl rfl rfl (Nat.le_of_ble_eq_true rfl) fun S4 H => ?_
  have H : Cx S [] S4 [.obj d (.row [I (1 + n % 5), I (n / 5 % s.cores), I now]), .obj q (.row [I 0, I 0, I 0])] [.pt b 0 (s.cs u), .sl u 4 (tks l)] := H
  repeat (first|refine zA ?_|refine zB rfl ?_|refine zC ?_|refine zD ?_|refine zE rfl ?_|refine zF ?_|refine zG ?_|refine zH ?_|refine zI ?_|refine zJ ?_|refine zK ?_|refine zL rfl ?_|refine zN rfl ?_)
  refine wp_row (j := 0) H 0 rfl rfl ?_
  have fin : ∀ {S5 : AH} {a : Int}, a = dAt s l n → Cx S [] S5 [.obj d (.row [I (1 + n % 5), I a, I now]), .obj q (.row [I 0, I 0, I 0])] [.pt b 0 (s.cs u), .sl u 4 (tks l)] → wp EM (.op (.load 3 true (.ptr d 0)) fun v16 => .op (.store 3 (.ptr q 0) v16) fun v17 => .ret .ret [.ptr q 0]) S5 fun tg vs S' => (tg = .normal ∨ tg = .ret) ∧ wp EM (.op (.load 3 true (nth vs 0)) fun v2 => .ret .ret [v2]) S' fun tg vs S' => tg = .ret ∧ oneOf vs = Deal (dKind n) (dAt s l n) now ∧ Grows S S' := by
    intro S5 a ha H
    refine wp_loadoa (n := 3) (off := 0) H 0 rfl (Nat.le_of_ble_eq_true rfl) ?_
    refine wp_store (n := 3) H 1 rfl rfl rfl (Nat.le_of_ble_eq_true rfl) fun S6 H => ?_
    have H : Cx S [] S6 [.obj d (.row [I (1 + n % 5), I a, I now]), .obj q (.row [I (1 + n % 5), I a, I now])] [.pt b 0 (s.cs u), .sl u 4 (tks l)] := H
    refine wp_ret ⟨.inr rfl, ?_⟩
    refine wp_loadoa (n := 3) (off := 0) H 1 rfl (Nat.le_of_ble_eq_true rfl) ?_
    exact wp_ret ⟨rfl, by rw [← ha]; rfl, H.grows⟩
  refine wp_eql (fun hk => ?_) (fun hk => ?_)
  · refine wp_bind ?_
    repeat (first|refine zA ?_|refine zB rfl ?_|refine zC ?_|refine zD ?_|refine zE rfl ?_|refine zF ?_|refine zG ?_|refine zH ?_|refine zI ?_|refine zJ ?_|refine zK ?_|refine zL rfl ?_|refine zN rfl ?_)
    refine wp_quoE hn.1 (by omega) (by omega) ?_
    repeat (first|refine zA ?_|refine zB rfl ?_|refine zC ?_|refine zD ?_|refine zE rfl ?_|refine zF ?_|refine zG ?_|refine zH ?_|refine zI ?_|refine zJ ?_|refine zK ?_|refine zL rfl ?_|refine zN rfl ?_)
    refine wp_ld H (o := 6) (cs := s.cs u) (by repeat (first | exact List.Mem.head _ | apply List.Mem.tail)) rfl ?_
    refine wp_len H (v := u) (es := 4) (L := tks l) (by repeat (first | exact List.Mem.head _ | apply List.Mem.tail)) ?_
    rw [tks_len]
    refine wp_remE hq (by omega) ?_
    repeat (first|refine zA ?_|refine zB rfl ?_|refine zC ?_|refine zD ?_|refine zE rfl ?_|refine zF ?_|refine zG ?_|refine zH ?_|refine zI ?_|refine zJ ?_|refine zK ?_|refine zL rfl ?_|refine zN rfl ?_)
    refine wp_set1 (j := 1) H 0 rfl (by simp) rfl rfl fun S5 H => ?_
    refine wp_ret ?_
    show wp EM _ _ _
    exact fin (by unfold dAt dKind; rw [if_pos hk]) H
  · refine wp_bind ?_
    repeat (first|refine zA ?_|refine zB rfl ?_|refine zC ?_|refine zD ?_|refine zE rfl ?_|refine zF ?_|refine zG ?_|refine zH ?_|refine zI ?_|refine zJ ?_|refine zK ?_|refine zL rfl ?_|refine zN rfl ?_)
    refine wp_ret ?_
    show wp EM _ _ _
    exact fin (by unfold dAt dKind; rw [if_neg hk]) H
end Go.Abs
namespace Go.Abs
open Go.Proofs
set_option maxRecDepth 100000
set_option linter.unusedVariables false
open Tsk (Tk tks tchk)
/-! ### each job is in one place -/
def sqn (y : Lv) : Int := y.key / 65536 % 1099511627776
structure InvB (s : Ms) : Prop where
  wf : s.Wf
  st : ∀ (i : Nat) y, s.jobs[i]? = some y → (y.st = 1 ∨ y.st = 2 ∨ y.st = 3 ∨ y.st = 4) ∧ (y.st = 4 → 0 ≤ y.core)
  fr : ∀ (i : Nat) y, s.jobs[i]? = some y → (y.st = 1 ↔ (i : Int) ∈ s.free)
  ma : ∀ (i : Nat) y, s.jobs[i]? = some y → (y.st = 2 ↔ (i : Int) ∈ s.mail.flatten)
  ru : ∀ (i : Nat) y, s.jobs[i]? = some y → ∀ c : Nat, (s.runs[c]? = some (i : Int) ↔ y.st = 4 ∧ y.core = (c : Int))
  fn : s.free.Nodup
  mn : s.mail.flatten.Nodup
  ky : ∀ (i : Nat) y, s.jobs[i]? = some y → y.st ≠ 1 → 1 ≤ sqn y ∧ sqn y ≤ s.seq
  kd : ∀ (i j : Nat) y z, s.jobs[i]? = some y → s.jobs[j]? = some z → y.st ≠ 1 → z.st ≠ 1 → sqn y = sqn z → i = j
theorem set_get {α : Type} {l : List α} {n i : Nat} {a b : α} (h : (l.set n a)[i]? = some b) (hn : n < l.length) : (i = n ∧ b = a) ∨ (i ≠ n ∧ l[i]? = some b) := by
  rw [List.getElem?_set] at h
  by_cases e : n = i
  · subst e
    rw [if_pos rfl, if_pos hn] at h
    cases h
    exact .inl ⟨rfl, rfl⟩
  · rw [if_neg e] at h
    exact .inr ⟨fun q => e q.symm, h⟩
theorem InvB.upd {s s' : Ms} (h : InvB s) {n : Nat} {y' : Lv} (hj : s'.jobs = s.jobs.set n y') (hn : n < s.jobs.length) (wf : s'.Wf)
    (st : (y'.st = 1 ∨ y'.st = 2 ∨ y'.st = 3 ∨ y'.st = 4) ∧ (y'.st = 4 → 0 ≤ y'.core))
    (f1 : ∀ i : Nat, i ≠ n → ((i : Int) ∈ s'.free ↔ (i : Int) ∈ s.free)) (f2 : y'.st = 1 ↔ (n : Int) ∈ s'.free) (fn : s'.free.Nodup)
    (m1 : ∀ i : Nat, i ≠ n → ((i : Int) ∈ s'.mail.flatten ↔ (i : Int) ∈ s.mail.flatten)) (m2 : y'.st = 2 ↔ (n : Int) ∈ s'.mail.flatten) (mn : s'.mail.flatten.Nodup)
    (r1 : ∀ i : Nat, i ≠ n → ∀ c : Nat, (s'.runs[c]? = some (i : Int) ↔ s.runs[c]? = some (i : Int))) (r2 : ∀ c : Nat, (s'.runs[c]? = some (n : Int) ↔ y'.st = 4 ∧ y'.core = (c : Int)))
    (sq : s.seq ≤ s'.seq) (ky : y'.st ≠ 1 → 1 ≤ sqn y' ∧ sqn y' ≤ s'.seq) (kd : y'.st ≠ 1 → ∀ (i : Nat) z, i ≠ n → s.jobs[i]? = some z → z.st ≠ 1 → sqn z ≠ sqn y') : InvB s' where
  wf := wf
  st := fun i y hy => by
    rw [hj] at hy
    rcases set_get hy hn with ⟨rfl, rfl⟩ | ⟨hi, hy⟩
    · exact st
    · exact h.st i y hy
  fr := fun i y hy => by
    rw [hj] at hy
    rcases set_get hy hn with ⟨rfl, rfl⟩ | ⟨hi, hy⟩
    · exact f2
    · rw [f1 i hi]; exact h.fr i y hy
  ma := fun i y hy => by
    rw [hj] at hy
    rcases set_get hy hn with ⟨rfl, rfl⟩ | ⟨hi, hy⟩
    · exact m2
    · rw [m1 i hi]; exact h.ma i y hy
  ru := fun i y hy c => by
    rw [hj] at hy
    rcases set_get hy hn with ⟨rfl, rfl⟩ | ⟨hi, hy⟩
    · exact r2 c
    · rw [r1 i hi c]; exact h.ru i y hy c
  fn := fn
  mn := mn
  ky := fun i y hy hs => by
    rw [hj] at hy
    rcases set_get hy hn with ⟨rfl, rfl⟩ | ⟨hi, hy⟩
    · exact ky hs
    · have := h.ky i y hy hs; omega
  kd := fun i j y z hy hz h1 h2 he => by
    rw [hj] at hy hz
    have ey := set_get hy hn
    have ez := set_get hz hn
    clear hy hz
    rcases ey with ⟨rfl, rfl⟩ | ⟨hi, hy⟩ <;> rcases ez with ⟨rfl, rfl⟩ | ⟨hj', hz⟩
    · rfl
    · exact absurd he.symm (kd h1 j z hj' hz h2)
    · exact absurd he (kd h2 i y hi hy h1)
    · exact h.kd i j y z hy hz h1 h2 he
/-- a change of what no job is in -/
theorem InvB.same {s s' : Ms} (h : InvB s) (wf : s'.Wf) (h1 : s'.jobs = s.jobs) (h2 : s'.free = s.free) (h3 : s'.mail = s.mail) (h4 : s'.runs = s.runs) (h5 : s.seq ≤ s'.seq) : InvB s' where
  wf := wf
  st := by rw [h1]; exact h.st
  fr := by rw [h1, h2]; exact h.fr
  ma := by rw [h1, h3]; exact h.ma
  ru := by rw [h1, h4]; exact h.ru
  fn := by rw [h2]; exact h.fn
  mn := by rw [h3]; exact h.mn
  ky := fun i y hy hs => by rw [h1] at hy; have := h.ky i y hy hs; omega
  kd := by rw [h1]; exact h.kd
theorem InvB.bal {s s' : Ms} (h : InvB s) (b : Bal s s') : InvB s' := by
  obtain ⟨h1, h2, h3, h4, h5, h6, h7, h8⟩ := b.same
  exact h.same (b.wf h.wf) h1 h7 h5 h6 (by omega)
theorem runs_set {l : List Int} {c d : Nat} {a b : Int} (hc : c < l.length) : (l.set c a)[d]? = some b ↔ (d = c ∧ b = a) ∨ (d ≠ c ∧ l[d]? = some b) := by
  rw [List.getElem?_set]
  by_cases e : c = d
  · subst e
    rw [if_pos rfl, if_pos hc]
    constructor
    · intro h; cases h; exact .inl ⟨rfl, rfl⟩
    · rintro (⟨_, rfl⟩ | ⟨h, _⟩)
      · rfl
      · exact absurd rfl h
  · rw [if_neg e]
    constructor
    · intro h; exact .inr ⟨fun q => e q.symm, h⟩
    · rintro (⟨h, _⟩ | ⟨_, h⟩)
      · exact absurd h.symm e
      · exact h
theorem InvB.claim {s : Ms} (h : InvB s) {c : Nat} {z : Lv} (hr : s.runs[c]? = some (-1)) (hz : IsLeast z (rdy s.jobs)) : InvB (s.claim c z) := by
  obtain ⟨n, h1, h2, h3⟩ := h.wf.least hz
  have hn := (List.getElem?_eq_some_iff.1 h2).1
  have hc := (List.getElem?_eq_some_iff.1 hr).1
  have e : z.job.toNat = n := by rw [h1, Int.toNat_natCast]
  refine h.upd (n := n) (y' := ⟨z.job, 4, c, z.key⟩) (by unfold Ms.claim; rw [e]) hn (h.wf.claim hz) ⟨by simp, fun _ => by show 0 ≤ (c : Int); omega⟩ (fun i hi => Iff.rfl) ?_ h.fn (fun i hi => Iff.rfl) ?_ h.mn ?_ ?_ (Int.le_refl _) ?_ ?_
  · have := h.fr n z h2
    show (4 : Int) = 1 ↔ (n : Int) ∈ s.free
    rw [← this, h3]; simp
  · have := h.ma n z h2
    show (4 : Int) = 2 ↔ (n : Int) ∈ s.mail.flatten
    rw [← this, h3]; simp
  · intro i hi d
    show (s.runs.set c z.job)[d]? = some (i : Int) ↔ _
    rw [runs_set hc]
    constructor
    · rintro (⟨rfl, hh⟩ | ⟨_, hh⟩)
      · rw [h1] at hh; exact absurd (Int.ofNat.inj hh) hi
      · exact hh
    · intro hh
      refine .inr ⟨fun q => ?_, hh⟩
      subst q; rw [hr] at hh; cases hh
  · intro d
    show (s.runs.set c z.job)[d]? = some (n : Int) ↔ (4 : Int) = 4 ∧ (c : Int) = (d : Int)
    rw [runs_set hc]
    constructor
    · rintro (⟨rfl, _⟩ | ⟨_, hh⟩)
      · exact ⟨rfl, rfl⟩
      · have := (h.ru n z h2 d).1 hh; rw [h3] at this; simp at this
    · rintro ⟨_, hh⟩
      exact .inl ⟨by omega, h1.symm⟩
  · intro _
    exact h.ky n z h2 (by omega)
  · intro _ i y hi hy hs he
    exact hi (h.kd i n y z hy h2 hs (by omega) he)
theorem mail_cut {α : Type} {l : List α} {c : Nat} {x : α} (h : l[c]? = some x) : ∃ A B, l = A ++ x :: B ∧ ∀ y, l.set c y = A ++ y :: B := by
  obtain ⟨hc, rfl⟩ := List.getElem?_eq_some_iff.1 h
  refine ⟨l.take c, l.drop (c + 1), ?_, fun y => List.set_eq_take_append_cons_drop.trans (if_pos hc)⟩
  rw [← List.drop_eq_getElem_cons hc, List.take_append_drop]
theorem InvB.takes {s : Ms} (h : InvB s) {c : Nat} {i : Int} {l : List Int} {y : Lv} (h1 : s.mail[c]? = some (i :: l)) (h2 : s.jobs[i.toNat]? = some y) : InvB (s.takes c y l) := by
  obtain ⟨A, B, hA, hset⟩ := mail_cut h1
  have hib := (h.wf.mb _ (List.mem_of_getElem? h1)).2 i (List.mem_cons_self ..)
  obtain ⟨n, rfl⟩ : ∃ n : Nat, i = (n : Int) := ⟨i.toNat, by omega⟩
  rw [Int.toNat_natCast] at h2
  have hn := (List.getElem?_eq_some_iff.1 h2).1
  have hyj : y.job = (n : Int) := h.wf.jj _ _ h2
  have e : y.job.toNat = n := by rw [hyj, Int.toNat_natCast]
  have hmn := h.mn
  rw [hA] at hmn
  have hfl : (A ++ ((n : Int) :: l) :: B).flatten = A.flatten ++ ((n : Int) :: (l ++ B.flatten)) := by simp
  have hfl2 : (A ++ l :: B).flatten = A.flatten ++ (l ++ B.flatten) := by simp
  rw [hfl] at hmn
  have hp : (A.flatten ++ ((n : Int) :: (l ++ B.flatten))).Perm ((n : Int) :: (A.flatten ++ (l ++ B.flatten))) := List.perm_middle
  have hnd := List.nodup_cons.1 (hp.nodup_iff.1 hmn)
  have hst : y.st = 2 := (h.ma n y h2).2 (by rw [hA, hfl]; simp)
  refine h.upd (n := n) (y' := { y with st := 3 }) (by unfold Ms.takes; rw [e]) hn (h.wf.takes h1 (by rw [Int.toNat_natCast]; exact h2)) ⟨by simp, fun q => by cases q⟩ (fun i hi => Iff.rfl) ?_ h.fn ?_ ?_ ?_ (fun i hi c => Iff.rfl) ?_ (Int.le_refl _) ?_ ?_
  · show (3 : Int) = 1 ↔ (n : Int) ∈ s.free
    rw [← h.fr n y h2, hst]; simp
  · intro j hj
    show (j : Int) ∈ (s.mail.set c l).flatten ↔ _
    rw [hset, hA, hfl, hfl2]
    simp only [List.mem_append, List.mem_cons]
    constructor
    · rintro (q | q)
      · exact .inl q
      · exact .inr (.inr q)
    · rintro (q | q | q)
      · exact .inl q
      · exact absurd (Int.ofNat.inj q) hj
      · exact .inr q
  · show (3 : Int) = 2 ↔ (n : Int) ∈ (s.mail.set c l).flatten
    rw [hset, hfl2]
    exact ⟨fun q => by omega, fun q => absurd q hnd.1⟩
  · show (s.mail.set c l).flatten.Nodup
    rw [hset, hfl2]; exact hnd.2
  · intro d
    show s.runs[d]? = some (n : Int) ↔ (3 : Int) = 4 ∧ y.core = (d : Int)
    rw [h.ru n y h2 d, hst]
    constructor
    · rintro ⟨q, _⟩; omega
    · rintro ⟨q, _⟩; omega
  · intro _
    exact h.ky n y h2 (by omega)
  · intro _ i z hi hz hs he
    exact hi (h.kd i n z y hz h2 hs (by omega) he)
/-- what a core runs is claimed -/
theorem InvB.runs {s : Ms} (h : InvB s) {c n : Nat} {y : Lv} (hr : s.runs[c]? = some (n : Int)) (hy : s.jobs[n]? = some y) : y.st = 4 ∧ y.core = (c : Int) := (h.ru n y hy c).1 hr
theorem nodup_lt {n : Nat} : ∀ {l : List Int}, l.Nodup → (∀ i ∈ l, 0 ≤ i ∧ i < (n : Int)) → ∀ a : Int, 0 ≤ a → a < (n : Int) → a ∉ l → l.length < n := by
  intro l hl hb a h0 h1 ha
  have h2 : ((a :: l).map Int.toNat).Nodup := by
    rw [List.nodup_iff_pairwise_ne, List.pairwise_map]
    have : (a :: l).Nodup := List.nodup_cons.2 ⟨ha, hl⟩
    rw [List.nodup_iff_pairwise_ne] at this
    refine this.imp_of_mem fun {x y} hx hy hne he => hne ?_
    have bx : 0 ≤ x := by
      rcases List.mem_cons.1 hx with rfl | hx
      · exact h0
      · exact (hb x hx).1
    have by' : 0 ≤ y := by
      rcases List.mem_cons.1 hy with rfl | hy
      · exact h0
      · exact (hb y hy).1
    omega
  have h3 := nodup_le h2 (n := n) (fun x hx => by
    obtain ⟨z, hz, rfl⟩ := List.mem_map.1 hx
    rcases List.mem_cons.1 hz with rfl | hz
    · omega
    · have := hb z hz; omega)
  simp at h3
  omega
theorem InvB.room {s : Ms} (h : InvB s) (c : Nat) (i : Int) (hr : s.runs[c]? = some i) (hi : i ≠ -1) : s.free.length < s.jobs.length := by
  obtain ⟨n, rfl, y, hy, hyj⟩ := h.wf.run hr hi
  have hn := (List.getElem?_eq_some_iff.1 hy).1
  refine nodup_lt h.fn h.wf.fb n (by omega) (by omega) fun hm => ?_
  have h1 := (h.fr n y hy).2 hm
  have h2 := (h.runs hr hy).1
  omega
theorem InvB.ends {s : Ms} (h : InvB s) {c n : Nat} {y : Lv} (hr : s.runs[c]? = some (n : Int)) (hy : s.jobs[n]? = some y) : InvB (s.ends c y) := by
  have hn := (List.getElem?_eq_some_iff.1 hy).1
  have hc := (List.getElem?_eq_some_iff.1 hr).1
  have hyj : y.job = (n : Int) := h.wf.jj _ _ hy
  have e : y.job.toNat = n := by rw [hyj, Int.toNat_natCast]
  obtain ⟨hst, hcore⟩ := h.runs hr hy
  have hnf : (n : Int) ∉ s.free := fun hm => by have := (h.fr n y hy).2 hm; omega
  refine h.upd (n := n) (y' := { y with st := 1, core := 0 }) (by unfold Ms.ends; rw [e]) hn (h.wf.ends hy hyj (h.room c n hr (by omega))) ⟨by simp, fun q => by cases q⟩ ?_ ?_ ?_ (fun i hi => Iff.rfl) ?_ h.mn ?_ ?_ (Int.le_refl _) (fun q => absurd rfl q) (fun q => absurd rfl q)
  · intro i hi
    show (i : Int) ∈ y.job :: s.free ↔ _
    rw [hyj, List.mem_cons]
    constructor
    · rintro (q | q)
      · exact absurd (Int.ofNat.inj q) hi
      · exact q
    · exact .inr
  · show (1 : Int) = 1 ↔ (n : Int) ∈ y.job :: s.free
    rw [hyj]; simp
  · show (y.job :: s.free).Nodup
    rw [hyj]; exact List.nodup_cons.2 ⟨hnf, h.fn⟩
  · show (1 : Int) = 2 ↔ (n : Int) ∈ s.mail.flatten
    rw [← h.ma n y hy, hst]; simp
  · intro i hi d
    show (s.runs.set c (-1))[d]? = some (i : Int) ↔ _
    rw [runs_set hc]
    constructor
    · rintro (⟨_, q⟩ | ⟨_, q⟩)
      · omega
      · exact q
    · intro q
      refine .inr ⟨fun hd => ?_, q⟩
      subst hd; rw [hr] at q; exact hi (Int.ofNat.inj (Option.some.inj q)).symm
  · intro d
    show (s.runs.set c (-1))[d]? = some (n : Int) ↔ (1 : Int) = 4 ∧ (0 : Int) = (d : Int)
    rw [runs_set hc]
    constructor
    · rintro (⟨_, q⟩ | ⟨hd, q⟩)
      · omega
      · have := (h.runs q hy).2
        exact absurd (by omega) hd
    · rintro ⟨q, _⟩; omega
theorem sqn_next {y : Lv} (h : y.key % 65536 ≠ 65535) (h0 : 0 ≤ y.key) {a b c : Int} : sqn ⟨a, b, c, y.key + 1⟩ = sqn y := by
  unfold sqn
  show (y.key + 1) / 65536 % 1099511627776 = _
  have : (y.key + 1) / 65536 = y.key / 65536 := by omega
  rw [this]
theorem InvB.gives {s : Ms} (h : InvB s) {c n : Nat} {y : Lv} (hr : s.runs[c]? = some (n : Int)) (hy : s.jobs[n]? = some y) (hk : y.key % 65536 ≠ 65535) : InvB (s.gives c y) := by
  have hn := (List.getElem?_eq_some_iff.1 hy).1
  have hc := (List.getElem?_eq_some_iff.1 hr).1
  have hyj : y.job = (n : Int) := h.wf.jj _ _ hy
  have e : y.job.toNat = n := by rw [hyj, Int.toNat_natCast]
  obtain ⟨hst, hcore⟩ := h.runs hr hy
  have hkb := h.wf.kb y (List.mem_of_getElem? hy)
  refine h.upd (n := n) (y' := ⟨y.job, 3, 0, y.key + 1⟩) (by unfold Ms.gives; rw [e]) hn (h.wf.gives hy hyj hk) ⟨by simp, fun q => by cases q⟩ (fun i hi => Iff.rfl) ?_ h.fn (fun i hi => Iff.rfl) ?_ h.mn ?_ ?_ (Int.le_refl _) ?_ ?_
  · show (3 : Int) = 1 ↔ (n : Int) ∈ s.free
    rw [← h.fr n y hy, hst]; simp
  · show (3 : Int) = 2 ↔ (n : Int) ∈ s.mail.flatten
    rw [← h.ma n y hy, hst]; simp
  · intro i hi d
    show (s.runs.set c (-1))[d]? = some (i : Int) ↔ _
    rw [runs_set hc]
    constructor
    · rintro (⟨_, q⟩ | ⟨_, q⟩)
      · omega
      · exact q
    · intro q
      refine .inr ⟨fun hd => ?_, q⟩
      subst hd; rw [hr] at q; exact hi (Int.ofNat.inj (Option.some.inj q)).symm
  · intro d
    show (s.runs.set c (-1))[d]? = some (n : Int) ↔ (3 : Int) = 4 ∧ (0 : Int) = (d : Int)
    rw [runs_set hc]
    constructor
    · rintro (⟨_, q⟩ | ⟨hd, q⟩)
      · omega
      · have := (h.runs q hy).2
        exact absurd (by omega) hd
    · rintro ⟨q, _⟩; omega
  · intro _
    rw [sqn_next hk hkb.1]
    exact h.ky n y hy (by omega)
  · intro _ i z hi hz hs he
    rw [sqn_next hk hkb.1] at he
    exact hi (h.kd i n z y hz hy hs (by omega) he)
theorem sqn_kword {p q : Int} (hp : 0 ≤ p) (hq : 0 ≤ q ∧ q ≤ 1099511627775) {a b c : Int} : sqn ⟨a, b, c, kword p q 0⟩ = q := by
  unfold sqn kword
  show (p * 72057594037927936 + q * 65536 + 0) / 65536 % 1099511627776 = q
  omega
theorem InvB.drops {s : Ms} (h : InvB s) {c : Nat} : InvB (s.drops c) := h.same h.wf.setFlag rfl rfl rfl rfl (Int.le_refl _)
end Go.Abs
namespace Go.Abs
open Go.Proofs
set_option maxRecDepth 100000
set_option linter.unusedVariables false
open Tsk (Tk tks tchk)
theorem InvB.rel {s : Ms} (h : InvB s) {i : Int} {f : List Int} {hh : Nat} {box : List Int} {p : Int} (hf : s.free = i :: f) (hb : s.mail[hh]? = some box) (hp : 0 ≤ p) (hq : s.seq + 1 ≤ 1099511627775)
    {t : Nat} {now : Int} (wf : (Ms.rel { s with passed := s.passed.set t now, seq := s.seq + 1 } i f hh box (kword p (s.seq + 1) 0)).Wf) :
    InvB (Ms.rel { s with passed := s.passed.set t now, seq := s.seq + 1 } i f hh box (kword p (s.seq + 1) 0)) := by
  have hib := h.wf.fb i (by rw [hf]; exact List.mem_cons_self ..)
  obtain ⟨n, rfl⟩ : ∃ n : Nat, i = (n : Int) := ⟨i.toNat, by omega⟩
  have hn : n < s.jobs.length := by omega
  obtain ⟨y, hy, hyj⟩ := h.wf.job hn
  have hs0 := h.wf.sq
  obtain ⟨A, B, hA, hset⟩ := mail_cut hb
  have hst : y.st = 1 := (h.fr n y hy).2 (by rw [hf]; exact List.mem_cons_self ..)
  have hfn := h.fn
  rw [hf, List.nodup_cons] at hfn
  have hnm : (n : Int) ∉ s.mail.flatten := fun hm => by have := (h.ma n y hy).2 hm; omega
  have hfl : (A ++ box :: B).flatten = A.flatten ++ (box ++ B.flatten) := by simp
  have hfl2 : (A ++ (box ++ [(n : Int)]) :: B).flatten = A.flatten ++ (box ++ ((n : Int) :: B.flatten)) := by simp
  have hp2 : (A.flatten ++ (box ++ ((n : Int) :: B.flatten))).Perm ((n : Int) :: (A.flatten ++ (box ++ B.flatten))) := by
    rw [← List.append_assoc, ← List.append_assoc]
    exact List.perm_middle
  have hmn := h.mn
  rw [hA, hfl] at hmn hnm
  have hsq : sqn ⟨(n : Int), 2, 0, kword p (s.seq + 1) 0⟩ = s.seq + 1 := sqn_kword hp ⟨by omega, hq⟩
  refine h.upd (n := n) (y' := ⟨(n : Int), 2, 0, kword p (s.seq + 1) 0⟩) (by show s.jobs.set _ _ = _; rw [Int.toNat_natCast]) hn wf ⟨by simp, fun q => by cases q⟩ ?_ ?_ hfn.2 ?_ ?_ ?_ (fun i hi c => Iff.rfl) ?_ (by show s.seq ≤ s.seq + 1; omega) ?_ ?_
  · intro i hi
    show (i : Int) ∈ f ↔ _
    rw [hf, List.mem_cons]
    constructor
    · exact .inr
    · rintro (q | q)
      · exact absurd (Int.ofNat.inj q) hi
      · exact q
  · show (2 : Int) = 1 ↔ (n : Int) ∈ f
    exact ⟨fun q => by omega, fun q => absurd q hfn.1⟩
  · intro i hi
    show (i : Int) ∈ (s.mail.set hh (box ++ [(n : Int)])).flatten ↔ _
    rw [hset, hfl2, hp2.mem_iff, hA, hfl, List.mem_cons]
    constructor
    · rintro (q | q)
      · exact absurd (Int.ofNat.inj q) hi
      · exact q
    · exact .inr
  · show (2 : Int) = 2 ↔ (n : Int) ∈ (s.mail.set hh (box ++ [(n : Int)])).flatten
    rw [hset, hfl2, hp2.mem_iff]
    simp
  · show (s.mail.set hh (box ++ [(n : Int)])).flatten.Nodup
    rw [hset, hfl2, hp2.nodup_iff, List.nodup_cons]
    exact ⟨hnm, hmn⟩
  · intro c
    show s.runs[c]? = some (n : Int) ↔ (2 : Int) = 4 ∧ (0 : Int) = (c : Int)
    rw [h.ru n y hy c, hst]
    constructor
    · rintro ⟨q, _⟩; omega
    · rintro ⟨q, _⟩; omega
  · intro _
    rw [hsq]
    exact ⟨by omega, Int.le_refl _⟩
  · intro _ j z hj hz hs he
    rw [hsq] at he
    have := (h.ky j z hz hs).2
    omega
/-! ### balanced, or somebody is told -/
def Jb (s : Ms) : Prop := true ∈ s.flags ∨ rdy s.jobs = [] ∨ ∀ w ∈ s.words, ∀ z ∈ rdy s.jobs, w ≤ z.key
theorem Jb.bal {s s' : Ms} (h : s.Wf) (b : Bal s s') : Jb s' := by
  rcases b with ⟨h0, rfl⟩ | ⟨z, c, w, hz, hm, hw, rfl⟩
  · exact .inr (.inl h0)
  · split
    · next hle =>
      refine .inr (.inr fun w' hw' z' hz' => ?_)
      obtain ⟨w2, h1, h2, h3⟩ := hm
      rw [hw] at h1
      cases h1
      obtain ⟨j, hj⟩ := List.getElem?_of_mem hw'
      have := h2 j w' hj
      have hl := hz.2 z' hz'
      unfold Lv.lt at hl
      omega
    · left
      show true ∈ s.flags.set c true
      have hc : c < s.flags.length := by
        have h1 := (List.getElem?_eq_some_iff.1 hw).1
        have h2 : s.words.length = s.runs.length := List.length_map ..
        have := h.rl
        have := h.gl
        omega
      exact List.mem_of_getElem? (i := c) (by rw [List.getElem?_set]; simp [hc])
theorem PickR.jb {s s' : Ms} {c : Nat} {r e : Int} (h : InvB s) (hr : s.runs[c]? = some (-1)) (p : PickR s c r e s') : Jb s' := by
  rcases p with ⟨i, h1, h2, rfl, rfl, rfl⟩ | ⟨h1, h2, rfl, rfl, rfl⟩ | ⟨z, h1, hz, rfl, rfl, hb⟩
  · rw [hr] at h1; cases h1; exact absurd rfl h2
  · exact .inr (.inl h2)
  · exact .bal (h.wf.claim hz) hb
theorem PickR.inv {s s' : Ms} {c : Nat} {r e : Int} (h : InvB s) (p : PickR s c r e s') : InvB s' := by
  rcases p with ⟨i, h1, h2, rfl, rfl, rfl⟩ | ⟨h1, h2, rfl, rfl, rfl⟩ | ⟨z, h1, hz, rfl, rfl, hb⟩
  · exact h
  · exact h
  · exact (h.claim h1 hz).bal hb
theorem TakeR.inv {s s' : Ms} {c : Nat} {r e : Int} (h : InvB s) (p : TakeR s c r e s') : InvB s' := by
  rcases p with ⟨h1, rfl, rfl, rfl⟩ | ⟨i, l, y, h1, h2, rfl, rfl, hb⟩
  · exact h
  · exact (h.takes h1 h2).bal hb
theorem EndR.inv {s s' : Ms} {c : Nat} {r e : Int} (h : InvB s) (p : EndR s c r e s') : InvB s' := by
  rcases p with ⟨h1, rfl, rfl, rfl⟩ | ⟨i, y, h1, h2, h3, rfl, rfl, hb⟩
  · exact h
  · obtain ⟨n, rfl, y', hy', _⟩ := h.wf.run h1 h2
    rw [Int.toNat_natCast, hy'] at h3
    cases h3
    exact (h.ends h1 hy').bal hb
theorem ThenPick.inv {s s' : Ms} {c : Nat} {r e : Int} (h : InvB s) (p : ThenPick s c r e s') : InvB s' := by
  obtain ⟨_, _, hp, _⟩ := p
  exact hp.inv h
theorem ServeR.inv {s s' : Ms} {c : Nat} {r e : Int} (h : InvB s) (p : ServeR s c r e s') : InvB s' := by
  rcases p with ⟨h1, rfl, rfl, rfl⟩ | ⟨h1, h2, hp⟩ | ⟨i, y, h1, h2, h3, h4, ⟨h5, rfl, rfl, rfl⟩ | ⟨h5, hp⟩⟩
  · exact h
  · exact hp.inv h.drops
  · exact h.drops
  · obtain ⟨n, rfl, y', hy', _⟩ := h.wf.run h2 h3
    rw [Int.toNat_natCast, hy'] at h4
    cases h4
    exact hp.inv (h.gives h2 hy' h5)
theorem RelR.inv {s s' : Ms} {t : Nat} {now r e : Int} (h : InvB s) (hnow : 0 ≤ now ∧ now ≤ 1099511627776) (hseq : s.seq < 1152921504606846976) (p : RelR s t now r e s') : InvB s' := by
  have wf' := (p.told h.wf hnow hseq).1
  obtain ⟨last, a, h1, h2, p⟩ := p
  have hab := tone_bd ((tchk_all h.wf.chk).2 a (List.mem_of_getElem? h2))
  rcases p with ⟨_, _, rfl, rfl, rfl⟩ | ⟨_, ⟨_, rfl, rfl, rfl⟩ | ⟨i, f, hf, ⟨_, rfl, rfl, rfl⟩ | ⟨h4, hh, box, h5, h6, ⟨_, rfl, rfl, rfl⟩ | ⟨h7, rfl, rfl, rfl⟩⟩⟩⟩
  · exact h
  · exact h.same wf' rfl rfl rfl rfl (Int.le_refl _)
  · exact h.same wf' rfl rfl rfl rfl (by show s.seq ≤ s.seq + 1; omega)
  · exact h.same wf' rfl rfl rfl rfl (by show s.seq ≤ s.seq + 1; omega)
  · exact h.rel hf h6 hab.1 h4 wf'
theorem OpR.inv {s s' : Ms} {kind at' now r e : Int} (h : InvB s) (hseq : s.seq < 1152921504606846976) (hf : mayAt s kind at' now) (p : OpR s kind at' now r e s') : InvB s' := by
  rcases p with ⟨hk, p⟩ | ⟨hk, p⟩ | ⟨hk, p⟩ | ⟨hk, p⟩ | ⟨hk, p⟩
  · exact p.inv h (hf.1 hk) hseq
  · exact p.inv h
  · exact p.inv h
  · exact p.inv h
  · exact p.inv h
theorem DoR.inv {s s' : Ms} {kind at' now r e : Int} (h : InvB s) (hseq : s.seq < 1152921504606846976) (p : DoR s kind at' now r e s') : InvB s' := by
  rcases p with ⟨_, rfl, rfl, rfl⟩ | ⟨_, _, rfl, rfl, rfl⟩ | ⟨_, hf, p⟩
  · exact h
  · exact h
  · exact p.inv h hseq hf
theorem mem_rdy {l : List Lv} {z : Lv} : z ∈ rdy l ↔ z ∈ l ∧ z.st = 3 := by unfold rdy; rw [List.mem_filter]; simp
theorem Jb.rel {s s' : Ms} (h : InvB s) (hJ : Jb s) {n : Nat} {y y' : Lv} (hy : s.jobs[n]? = some y) (h1 : y.st = 1) (h2 : y'.st = 2) (hj : s'.jobs = s.jobs.set n y') (hf : s'.flags = s.flags) (hr : s'.runs = s.runs) : Jb s' := by
  have hn := (List.getElem?_eq_some_iff.1 hy).1
  have hrd : ∀ z, z ∈ rdy s'.jobs → z ∈ rdy s.jobs := fun z hz => by
    obtain ⟨q1, q2⟩ := mem_rdy.1 hz
    rw [hj] at q1
    rcases List.mem_or_eq_of_mem_set q1 with q1 | rfl
    · exact mem_rdy.2 ⟨q1, q2⟩
    · omega
  have hw : s'.words = s.words := by
    unfold Ms.words
    rw [hr]
    apply List.map_congr_left
    intro i hi
    unfold Ms.word
    by_cases he : i = -1
    · rw [if_pos he, if_pos he]
    · rw [if_neg he, if_neg he, hj]
      obtain ⟨c, hc⟩ := List.getElem?_of_mem hi
      obtain ⟨q, rfl, z, hz, _⟩ := h.wf.run hc he
      have hne : n ≠ q := by
        rintro rfl
        have := (h.runs hc hy).1
        omega
      rw [Int.toNat_natCast, List.getElem?_set, if_neg hne]
  rcases hJ with q | q | q
  · exact .inl (by rw [hf]; exact q)
  · refine .inr (.inl ?_)
    cases hl : rdy s'.jobs with
    | nil => rfl
    | cons z l =>
      have := hrd z (by rw [hl]; exact List.mem_cons_self ..)
      rw [q] at this; cases this
  · exact .inr (.inr fun w hw' z hz => q w (by rw [← hw]; exact hw') z (hrd z hz))
theorem Jb.same {s s' : Ms} (hJ : Jb s) (h1 : s'.jobs = s.jobs) (h2 : s'.flags = s.flags) (h3 : s'.runs = s.runs) : Jb s' := by
  unfold Jb Ms.words Ms.word at *
  rw [h1, h2, h3]; exact hJ
theorem OpR.jb {s s' : Ms} {kind at' now r e : Int} (h : InvB s) (hJ : Jb s) (he : e ≠ 12) (p : OpR s kind at' now r e s') : Jb s' := by
  rcases p with ⟨hk, p⟩ | ⟨hk, p⟩ | ⟨hk, p⟩ | ⟨hk, p⟩ | ⟨hk, p⟩
  · obtain ⟨last, a, h1, h2, p⟩ := p
    rcases p with ⟨_, _, rfl, rfl, rfl⟩ | ⟨_, ⟨_, rfl, rfl, rfl⟩ | ⟨i, f, hf, ⟨_, rfl, rfl, rfl⟩ | ⟨h4, hh, box, h5, h6, ⟨_, rfl, rfl, rfl⟩ | ⟨h7, rfl, rfl, rfl⟩⟩⟩⟩
    · exact hJ
    · exact hJ.same rfl rfl rfl
    · exact hJ.same rfl rfl rfl
    · exact hJ.same rfl rfl rfl
    · have hib := h.wf.fb r (by rw [hf]; exact List.mem_cons_self ..)
      obtain ⟨n, rfl⟩ : ∃ n : Nat, r = (n : Int) := ⟨r.toNat, by omega⟩
      obtain ⟨y, hy, _⟩ := h.wf.job (i := n) (by omega)
      exact hJ.rel h hy ((h.fr n y hy).2 (by rw [hf]; exact List.mem_cons_self ..)) (y' := ⟨(n : Int), 2, 0, kword a.prio (s.seq + 1) 0⟩) rfl (by show s.jobs.set _ _ = _; rw [Int.toNat_natCast]) rfl rfl
  · rcases p with ⟨h1, rfl, rfl, rfl⟩ | ⟨i, l, y, h1, h2, rfl, rfl, hb⟩
    · exact hJ
    · exact .bal (h.wf.takes h1 h2) hb
  · rcases p with ⟨i, h1, h2, rfl, rfl, rfl⟩ | ⟨h1, h2, rfl, rfl, rfl⟩ | ⟨z, h1, hz, rfl, rfl, hb⟩
    · exact hJ
    · exact hJ
    · exact .bal (h.wf.claim hz) hb
  · rcases p with ⟨h1, rfl, rfl, rfl⟩ | ⟨h1, h2, _, _, hp, _⟩ | ⟨i, y, h1, h2, h3, h4, ⟨h5, rfl, rfl, rfl⟩ | ⟨h5, _, _, hp, _⟩⟩
    · exact hJ
    · exact hp.jb h.drops h2
    · exact absurd rfl he
    · obtain ⟨n, rfl, y', hy', _⟩ := h.wf.run h2 h3
      rw [Int.toNat_natCast, hy'] at h4
      cases h4
      refine hp.jb (h.gives h2 hy' h5) ?_
      show (s.runs.set _ (-1))[_]? = _
      rw [List.getElem?_set]
      simp [(List.getElem?_eq_some_iff.1 h2).1]
  · rcases p with ⟨h1, rfl, rfl, rfl⟩ | ⟨i, y, h1, h2, h3, rfl, rfl, hb⟩
    · exact hJ
    · obtain ⟨n, rfl, y', hy', hyj⟩ := h.wf.run h1 h2
      rw [Int.toNat_natCast, hy'] at h3
      cases h3
      exact .bal (h.wf.ends hy' hyj (h.room _ _ h1 h2)) hb
theorem DoR.jb {s s' : Ms} {kind at' now r e : Int} (h : InvB s) (hJ : Jb s) (he : e ≠ 12) (p : DoR s kind at' now r e s') : Jb s' := by
  rcases p with ⟨_, rfl, rfl, rfl⟩ | ⟨_, _, rfl, rfl, rfl⟩ | ⟨_, hf, p⟩
  · exact hJ
  · exact hJ
  · exact p.jb h hJ he
/-! ### what is new is so -/
theorem jobs0_get {n i : Nat} {y : Lv} (h : (jobs0 n)[i]? = some y) : i < n ∧ y = ⟨(i : Int), 1, 0, 0⟩ := by
  unfold jobs0 at h
  rw [List.getElem?_map] at h
  cases hr : (List.range n)[i]? with
  | none => rw [hr] at h; cases h
  | some a =>
    rw [hr] at h
    cases h
    obtain ⟨h1, h2⟩ := List.getElem?_eq_some_iff.1 hr
    rw [List.getElem_range] at h2
    subst h2
    rw [List.length_range] at h1
    exact ⟨h1, rfl⟩
theorem mem_free0 {n : Nat} {i : Int} : i ∈ free0 n ↔ 0 ≤ i ∧ i < n := by
  unfold free0
  rw [List.mem_map]
  constructor
  · rintro ⟨a, ha, rfl⟩
    have := List.mem_range.1 ha
    omega
  · rintro ⟨h1, h2⟩
    exact ⟨i.toNat, List.mem_range.2 (by omega), by omega⟩
theorem flat_nil {n : Nat} : (List.replicate n ([] : List Int)).flatten = [] := by
  induction n with
  | zero => rfl
  | succ n ih => rw [List.replicate_succ, List.flatten_cons, ih]; rfl
theorem InvB.init {su : Su} {l : List Tk} (h : su.chk l = 0) : InvB (Ms.init su l) := by
  have hfine : su.fine ∧ tchk l = 0 := by
    unfold Su.chk at h
    split at h
    · next hf =>
      split at h
      · next hne => exact absurd h hne
      · next hz => exact ⟨hf, by omega⟩
    · cases h
  have hfi := hfine.1
  unfold Su.fine at hfi
  refine ⟨⟨hfine.1, hfine.2, ?_, ?_, ?_, ?_, ?_, ?_, ?_, ?_, ?_, ?_, ?_, ?_, ?_⟩, ?_, ?_, ?_, ?_, ?_, ?_, ?_, ?_⟩
  · show (List.replicate l.length (-1 : Int)).length = l.length; simp
  · intro p hp
    rw [(List.mem_replicate.1 hp).2]; omega
  · show ((jobs0 su.jobs.toNat).length : Int) = su.jobs; rw [jobs0_len]; omega
  · intro i y hy
    rw [(jobs0_get hy).2]
  · intro y hy
    obtain ⟨i, hi⟩ := List.getElem?_of_mem hy
    rw [(jobs0_get hi).2]; simp
  · show (free0 su.jobs.toNat).length ≤ (jobs0 su.jobs.toNat).length; rw [free0_len, jobs0_len]; omega
  · intro i hi
    have := mem_free0.1 hi
    show 0 ≤ i ∧ i < ((jobs0 su.jobs.toNat).length : Int)
    rw [jobs0_len]; exact this
  · show ((List.replicate su.cores.toNat ([] : List Int)).length : Int) = su.cores; rw [List.length_replicate]; omega
  · intro q hq
    rw [(List.mem_replicate.1 hq).2]
    exact ⟨by show (0 : Int) ≤ su.room; omega, fun i hi => by cases hi⟩
  · show ((List.replicate su.cores.toNat (-1 : Int)).length : Int) = su.cores; rw [List.length_replicate]; omega
  · intro i hi
    rw [(List.mem_replicate.1 hi).2]; omega
  · show ((List.replicate su.cores.toNat false).length : Int) = su.cores; rw [List.length_replicate]; omega
  · exact ⟨Int.le_refl _, by show (0 : Int) ≤ _; omega⟩
  · intro i y hy
    rw [(jobs0_get hy).2]; simp
  · intro i y hy
    obtain ⟨h1, rfl⟩ := jobs0_get hy
    show (1 : Int) = 1 ↔ (i : Int) ∈ free0 su.jobs.toNat
    rw [mem_free0]
    exact ⟨fun _ => by omega, fun _ => rfl⟩
  · intro i y hy
    obtain ⟨h1, rfl⟩ := jobs0_get hy
    show (1 : Int) = 2 ↔ (i : Int) ∈ (List.replicate su.cores.toNat ([] : List Int)).flatten
    rw [flat_nil]; simp
  · intro i y hy c
    obtain ⟨h1, rfl⟩ := jobs0_get hy
    constructor
    · intro q
      have := (List.mem_replicate.1 (List.mem_of_getElem? q)).2
      omega
    · rintro ⟨q, _⟩
      have q : (1 : Int) = 4 := q
      omega
  · show (free0 su.jobs.toNat).Nodup
    unfold free0
    rw [List.nodup_iff_pairwise_ne, List.pairwise_map]
    have := @List.nodup_range su.jobs.toNat
    rw [List.nodup_iff_pairwise_ne] at this
    exact this.imp fun h q => h (Int.ofNat.inj q)
  · show (List.replicate su.cores.toNat ([] : List Int)).flatten.Nodup
    rw [flat_nil]; exact List.nodup_nil
  · intro i y hy hs
    obtain ⟨_, rfl⟩ := jobs0_get hy
    exact absurd rfl hs
  · intro i j y z hy hz hs
    obtain ⟨_, rfl⟩ := jobs0_get hy
    exact absurd rfl hs
theorem Jb.init {su : Su} {l : List Tk} : Jb (Ms.init su l) := by
  refine .inr (.inl ?_)
  cases hl : rdy (Ms.init su l).jobs with
  | nil => rfl
  | cons z r =>
    have := mem_rdy.1 (show z ∈ rdy (Ms.init su l).jobs by rw [hl]; exact List.mem_cons_self ..)
    obtain ⟨i, hi⟩ := List.getElem?_of_mem this.1
    have h2 := this.2
    rw [(jobs0_get hi).2] at h2
    have h2 : (1 : Int) = 3 := h2
    omega
end Go.Abs
namespace Go.Abs
open Go.Proofs
set_option maxRecDepth 100000
set_option linter.unusedVariables false
open Tsk (Tk tks tchk tks_len tks_get)
instance : DecidableEq Lv := fun a b => decidable_of_iff (a.job = b.job ∧ a.st = b.st ∧ a.core = b.core ∧ a.key = b.key) ⟨fun h => by cases a; cases b; simp at h; simp [h], fun h => by rw [h]; simp⟩
theorem StS.toPerm {l m : List Lv} (h : StS l m) : m.Perm l := by
  rw [List.perm_iff_count]
  intro a
  have key : ∀ q : List Lv, q.count a = (cls a.key a.job q).count a := fun q => by
    unfold cls
    rw [List.count_filter]
    simp
  rw [key m, key l, h.2]
/-- those ahead, those behind -/
theorem split_at {p : Lv → Bool} : ∀ {L : List Lv}, L.Pairwise (fun a b => p a = false → p b = false) → ∀ (i : Nat) x, L[i]? = some x → (p x = true ↔ i < (L.filter p).length)
  | [], _, i, x, h => by simp at h
  | y :: L, hp, 0, x, h => by
    simp at h
    subst h
    cases hy : p y with
    | true => simp [hy]
    | false =>
      have hp := (List.pairwise_cons.1 hp).1
      have : (y :: L).filter p = [] := by
        rw [List.filter_eq_nil_iff]
        intro z hz
        rcases List.mem_cons.1 hz with rfl | hz
        · simp [hy]
        · simp [hp z hz hy]
      rw [this]; simp
  | y :: L, hp, i + 1, x, h => by
    simp at h
    have ih := split_at (List.pairwise_cons.1 hp).2 i x h
    cases hy : p y with
    | true =>
      rw [List.filter_cons_of_pos hy, List.length_cons, ih]
      omega
    | false =>
      have hp := (List.pairwise_cons.1 hp).1
      have hx := hp x (List.mem_of_getElem? h) hy
      have : (y :: L).filter p = [] := by
        rw [List.filter_eq_nil_iff]
        intro z hz
        rcases List.mem_cons.1 hz with rfl | hz
        · simp [hy]
        · simp [hp z hz hy]
      rw [this, hx]; simp
theorem range_le {n : Nat} {l : List Nat} (h : ∀ i, i < n → i ∈ l) : n ≤ l.length := by
  have : ∀ (n : Nat) (l : List Nat), (∀ i, i < n → i ∈ l) → n ≤ l.length := by
    intro n
    induction n with
    | zero => intro l _; omega
    | succ n ih =>
      intro l h
      have h1 := h n (by omega)
      have h2 := ih (l.erase n) fun i hi => (List.mem_erase_of_ne (by omega)).2 (h i (by omega))
      rw [List.length_erase_of_mem h1] at h2
      have := List.length_pos_of_mem h1
      omega
  exact this n l h
def isC (x : Lv) : Bool := decide (x.st = 4)
theorem right_of {s : Ms} (h : InvB s) (hJ : Jb s) (hq : s.quiet) {L : List Lv} (hL : StS (liv s.jobs) L) : rightL L (many s.su.cores L.length) s.su.cores := by
  have hc := h.wf.c64
  have hmem : ∀ x, x ∈ L ↔ x ∈ s.jobs ∧ isLive x = true := fun x => by rw [hL.mem]; unfold liv; rw [List.mem_filter]
  -- what is known of one of them
  have one : ∀ x ∈ L, ∃ n : Nat, x.job = n ∧ s.jobs[n]? = some x ∧ (x.st = 3 ∨ (x.st = 4 ∧ ∃ c : Nat, x.core = (c : Int) ∧ s.runs[c]? = some (n : Int))) := by
    intro x hx
    obtain ⟨h1, h2⟩ := (hmem x).1 hx
    obtain ⟨n, h3, h4⟩ := h.wf.of_mem h1
    refine ⟨n, h3, h4, ?_⟩
    obtain ⟨h5, h6⟩ := h.st n x h4
    have h7 : x.st ≠ 2 := fun e => by
      have := (h.ma n x h4).1 e
      obtain ⟨q, hq1, hq2⟩ := List.mem_flatten.1 this
      rw [hq.2 q hq1] at hq2; cases hq2
    have h8 : x.st ≠ 1 := fun e => by unfold isLive at h2; rw [e] at h2; simp at h2
    by_cases h9 : x.st = 4
    · refine .inr ⟨h9, x.core.toNat, by have := h6 h9; omega, ?_⟩
      rw [h.ru n x h4]
      exact ⟨h9, by have := h6 h9; omega⟩
    · exact .inl (by omega)
  have inj : ∀ x ∈ L, ∀ y ∈ L, x.job = y.job → x = y := by
    intro x hx y hy e
    obtain ⟨n, h1, h2, _⟩ := one x hx
    obtain ⟨k, h3, h4, _⟩ := one y hy
    have : n = k := by omega
    subst this
    rw [h2] at h4; cases h4; rfl
  have hnd : L.Nodup := by
    rw [hL.toPerm.nodup_iff]
    have : s.jobs.Nodup := by
      rw [List.nodup_iff_pairwise_ne, List.pairwise_iff_getElem]
      intro i j hi hj hlt e
      have h1 := h.wf.jj i _ (List.getElem?_eq_getElem hi)
      have h2 := h.wf.jj j _ (List.getElem?_eq_getElem hj)
      rw [e] at h1; omega
    exact this.sublist List.filter_sublist
  -- cores are unlike
  have coreinj : ∀ x ∈ L, ∀ y ∈ L, x.st = 4 → y.st = 4 → x.core = y.core → x = y := by
    intro x hx y hy h1 h2 e
    obtain ⟨n, h3, h4, h5⟩ := one x hx
    obtain ⟨k, h6, h7, h8⟩ := one y hy
    rcases h5 with h5 | ⟨_, c, h5, h9⟩
    · omega
    rcases h8 with h8 | ⟨_, d, h8, h10⟩
    · omega
    have : c = d := by omega
    subst this
    rw [h9] at h10
    have : n = k := by injection h10 with h10; omega
    exact inj x hx y hy (by omega)
  have hrl := h.wf.rl
  have corelt : ∀ x ∈ L, x.st = 4 → 0 ≤ x.core ∧ x.core < s.su.cores := by
    intro x hx h1
    obtain ⟨n, h3, h4, h5⟩ := one x hx
    rcases h5 with h5 | ⟨_, c, h5, h9⟩
    · omega
    have := (List.getElem?_eq_some_iff.1 h9).1
    omega
  -- the claimed ones' cores
  have hCn : ((L.filter isC).map fun x => x.core.toNat).Nodup := by
    rw [List.nodup_iff_pairwise_ne, List.pairwise_map]
    have := hnd.sublist (List.filter_sublist (l := L) (p := isC))
    rw [List.nodup_iff_pairwise_ne] at this
    refine this.imp_of_mem fun {x y} hx hy hne he => hne ?_
    obtain ⟨x1, x2⟩ := List.mem_filter.1 hx
    obtain ⟨y1, y2⟩ := List.mem_filter.1 hy
    unfold isC at x2 y2
    have x2 := of_decide_eq_true x2
    have y2 := of_decide_eq_true y2
    have := corelt x x1 x2
    have := corelt y y1 y2
    exact coreinj x x1 y y1 x2 y2 (by omega)
  have hCle : (L.filter isC).length ≤ s.su.cores.toNat := by
    have := nodup_le hCn (n := s.su.cores.toNat) (fun a ha => by
      obtain ⟨x, hx, rfl⟩ := List.mem_map.1 ha
      obtain ⟨x1, x2⟩ := List.mem_filter.1 hx
      have := corelt x x1 (of_decide_eq_true x2)
      omega)
    rwa [List.length_map] at this
  -- claimed ones stand ahead, and are so many
  have main : L.Pairwise (fun a b => isC a = false → isC b = false) ∧ (L.filter isC).length = many s.su.cores L.length := by
    rcases hJ with hJ | hJ | hJ
    · exact absurd hJ hq.1
    · have all : ∀ x ∈ L, isC x = true := by
        intro x hx
        obtain ⟨n, h3, h4, h5⟩ := one x hx
        rcases h5 with h5 | ⟨h5, _⟩
        · have : x ∈ rdy s.jobs := mem_rdy.2 ⟨List.mem_of_getElem? h4, h5⟩
          rw [hJ] at this; cases this
        · exact decide_eq_true h5
      have hf : L.filter isC = L := List.filter_eq_self.2 all
      refine ⟨List.pairwise_of_forall_mem_list fun a ha b hb hab => (by rw [all a ha] at hab; cases hab), ?_⟩
      rw [hf] at hCle ⊢
      unfold many; omega
    · -- nothing ready is sooner than what is run
      by_cases hz : ∃ z ∈ L, z.st = 3
      · obtain ⟨z, hz, hz3⟩ := hz
        have hzr : z ∈ rdy s.jobs := mem_rdy.2 ⟨((hmem z).1 hz).1, hz3⟩
        have hzk := h.wf.kb z ((hmem z).1 hz).1
        -- all cores run something
        have busy : ∀ c : Nat, c < s.su.cores.toNat → ∃ x ∈ L, x.st = 4 ∧ x.core = (c : Int) := by
          intro c hcl
          have hr : s.runs[c]? = some (s.runs[c]'(by omega)) := List.getElem?_eq_getElem _
          generalize s.runs[c]'(by omega) = i at hr
          have hne : i ≠ -1 := by
            rintro rfl
            have := hJ (s.word (-1)) (List.mem_map.2 ⟨-1, List.mem_of_getElem? hr, rfl⟩) z hzr
            have e : s.word (-1) = 18446744073709551615 := rfl
            omega
          obtain ⟨n, rfl, y, hy, _⟩ := h.wf.run hr hne
          obtain ⟨h1, h2⟩ := h.runs hr hy
          exact ⟨y, (hmem y).2 ⟨List.mem_of_getElem? hy, by unfold isLive; rw [h1]; rfl⟩, h1, h2⟩
        have hge : s.su.cores.toNat ≤ (L.filter isC).length := by
          have := range_le (n := s.su.cores.toNat) (l := (L.filter isC).map fun x => x.core.toNat) fun c hcl => by
            obtain ⟨x, h1, h2, h3⟩ := busy c hcl
            exact List.mem_map.2 ⟨x, List.mem_filter.2 ⟨h1, decide_eq_true h2⟩, by omega⟩
          rwa [List.length_map] at this
        have hlen : (L.filter isC).length ≤ L.length := List.length_filter_le ..
        refine ⟨?_, by unfold many; omega⟩
        refine hL.1.imp_of_mem fun {a b} ha hb hab hfa => ?_
        cases hb4 : isC b with
        | false => rfl
        | true =>
          exfalso
          have hb4 := of_decide_eq_true hb4
          have ha4 := of_decide_eq_false hfa
          obtain ⟨n, a1, a2, a3⟩ := one a ha
          obtain ⟨k, b1, b2, b3⟩ := one b hb
          have a3 : a.st = 3 := by rcases a3 with q | ⟨q, _⟩ <;> omega
          rcases b3 with b3 | ⟨_, c, b3, b4⟩
          · omega
          have hle := hJ (s.word (k : Int)) (List.mem_map.2 ⟨_, List.mem_of_getElem? b4, rfl⟩) a (mem_rdy.2 ⟨List.mem_of_getElem? a2, a3⟩)
          have e : s.word (k : Int) = b.key := by unfold Ms.word; rw [if_neg (by omega), Int.toNat_natCast, b2]
          rw [e] at hle
          have hne : b.key ≠ a.key := fun he => by
            have := h.kd k n b a b2 a2 (by omega) (by omega) (by unfold sqn; rw [he])
            subst this
            rw [a2] at b2; cases b2; omega
          exact hab (by unfold Lv.lt; omega)
      · have all : ∀ x ∈ L, isC x = true := by
          intro x hx
          obtain ⟨n, h3, h4, h5⟩ := one x hx
          rcases h5 with h5 | ⟨h5, _⟩
          · exact absurd ⟨x, hx, h5⟩ hz
          · exact decide_eq_true h5
        have hf : L.filter isC = L := List.filter_eq_self.2 all
        refine ⟨List.pairwise_of_forall_mem_list fun a ha b hb hab => (by rw [all a ha] at hab; cases hab), ?_⟩
        rw [hf] at hCle ⊢
        unfold many; omega
  obtain ⟨m1, m2⟩ := main
  intro i x hx
  have hs := split_at m1 i x hx
  rw [m2] at hs
  have hst : isC x = true ↔ x.st = 4 := decide_eq_true_iff
  rw [hst] at hs
  refine ⟨hs, fun hi => ?_⟩
  have hxL := List.mem_of_getElem? hx
  have h4 := hs.2 hi
  refine ⟨(corelt x hxL h4).1, (corelt x hxL h4).2, fun y hy hyc => ?_⟩
  obtain ⟨j, hj⟩ := List.getElem?_of_mem hy
  have hjl := (List.getElem?_eq_some_iff.1 hj).1
  rw [List.length_take] at hjl
  have hj2 : L[j]? = some y := by rw [List.getElem?_take] at hj; split at hj; exact hj; cases hj
  have hy4 : y.st = 4 := by
    have := split_at m1 j y hj2
    rw [m2] at this
    exact of_decide_eq_true (this.2 (by omega))
  have e := coreinj y (List.mem_of_getElem? hj2) x hxL hy4 h4 hyc
  subst e
  have h1 := (List.getElem?_eq_some_iff.1 hx)
  have h2 := (List.getElem?_eq_some_iff.1 hj2)
  rw [List.nodup_iff_pairwise_ne, List.pairwise_iff_getElem] at hnd
  exact hnd j i h2.1 h1.1 (by omega) (by rw [h1.2, h2.2])
end Go.Abs
namespace Go.Abs
open Go.Proofs
set_option maxRecDepth 100000
set_option linter.unusedVariables false
open Tsk (Tk tks tchk tks_len tks_get)
section
variable {B0 S : AH} {W : List Nat} {own R : List Own} {ro : List Fct} {Q : Post} {k : AV → AC} {kc : AC} {v : AV} {x : Nat} {s : Ms} {m : Mv}
theorem wp_gchk1 {M : Mach} (H : Cx B0 W S own ro) {g : Bool} {id o : Nat} {cs : List AV} {v : AV} (hm : Fct.pt id 0 cs ∈ ro) (hj : cs[o]? = some v) (hb : AV.beq v v = true) (h : wp M kc S Q) :
    wp M (.gchk (B g) g (.load 1 false (.ptr id o)) v kc) S Q := by
  obtain ⟨c, h1, h2⟩ := pt_get (H.rh _ hm) hj
  refine wp_gchk (v' := v) (by cases g <;> rfl) ?_ hb h
  show (match S.cells? id with | some c => mkPart false c o 1 | none => none) = _
  rw [h1]
  rw [Nat.zero_add] at h2
  exact mkPart_one h2
theorem wp_gchk_f {M : Mach} {g g' : Bool} {o : AOp} {v : AV} (hg : g' = !g) (h : wp M kc S Q) : wp M (.gchk (B g) g' o v kc) S Q := wp_gchk_not (by subst hg; cases g <;> rfl) h
theorem known_kn {S : AH} : wpC EM (.fn (.func 14) [] []) [] S fun r S' => r = B true ∧ S' = S := wpC_kn (v := B true) rfl ⟨rfl, rfl⟩
theorem InvB.fit {s : Ms} (h : InvB s) {m : Mv} {ro : List Fct} (h1 : m.bx.length = s.mail.length) (h2 : s.jobs.length ≤ 12) (h3 : Fct.sl m.vt 4 (tks s.T) ∈ ro) (h4 : s.seq < 1152921504606846976) : Fit s m ro := ⟨h.wf, h1, h2, h3, h4, h.room⟩
end
end Go.Abs
