/- functions of this cut: what they compute, in the abstract machine. Conditions: stated in each theorem -/
import Derived.Test.YtbpgfafpkagmmaaGreatE1
set_option linter.unusedVariables false
set_option linter.unusedSimpArgs false
namespace Go.Abs
open Go.Proofs
set_option maxRecDepth 100000
set_option linter.unusedVariables false
open Tsk (Tk tks tchk)
/-! ### mailboxes -/
def mOwnG (x : Nat) (s : Ms) (m : Mv) (bz : List AV) : List Own := .obj x (.row (s.row m)) :: .sl m.vp 1 (ints s.passed) :: .sl m.vj 4 (lvs s.jobs) :: .sl m.vf 1 (ints s.free) :: .sl m.vm 1 (ptrs m.bx) :: .sl m.vr 1 (ints s.runs) :: .sl m.vg 1 (bls s.flags) :: List.zipWith boxO bz s.mail
theorem ptrs_len (l : List AV) : (ptrs l).length = l.length := List.length_map ..
theorem ptrs_get? {l : List AV} {i : Nat} {b : AV} (h : l[i]? = some b) : (ptrs l)[i]? = some [b] := by unfold ptrs; rw [List.getElem?_map, h]; rfl
theorem ptrs_set (l : List AV) (i : Nat) (b : AV) : (ptrs l).set i [b] = ptrs (l.set i b) := by unfold ptrs; rw [List.map_set]
theorem zip_get {bz : List AV} {ml : List (List Int)} {c : Nat} {b : AV} {l : List Int} (h1 : bz[c]? = some b) (h2 : ml[c]? = some l) : (List.zipWith boxO bz ml)[c]? = some (boxO b l) := by
  rw [List.getElem?_zipWith, h1, h2]
theorem zip_set : ∀ {bz : List AV} {ml : List (List Int)} {c : Nat} {b : AV} {l : List Int}, (List.zipWith boxO bz ml).set c (boxO b l) = List.zipWith boxO (bz.set c b) (ml.set c l)
  | [], _, _, _, _ => by simp
  | _ :: _, [], _, _, _ => by simp
  | _ :: _, _ :: _, 0, _, _ => rfl
  | _ :: bz, _ :: ml, c + 1, b, l => by
    simp only [List.zipWith_cons_cons, List.set_cons_succ]
    rw [zip_set]
theorem box_get {x : Nat} {s : Ms} {m : Mv} {R : List Own} {bz : List AV} {c : Nat} {b : AV} {l : List Int} (h1 : bz[c]? = some b) (h2 : s.mail[c]? = some l) : (mOwnG x s m bz ++ R)[c + 7]? = some (boxO b l) := by
  show (List.zipWith boxO bz s.mail ++ R)[c]? = _
  have h := zip_get h1 h2
  rw [List.getElem?_append_left (List.getElem?_eq_some_iff.1 h).1, h]
theorem box_set {x : Nat} {s : Ms} {m : Mv} {R : List Own} {bz : List AV} {c : Nat} {b b' : AV} {l l' : List Int} (h1 : bz[c]? = some b) (h2 : s.mail[c]? = some l) :
    (mOwnG x s m bz ++ R).set (c + 7) (boxO b' l') = mOwnG x { s with mail := s.mail.set c l' } m (bz.set c b') ++ R := by
  have h := zip_get h1 h2
  show _ :: _ :: _ :: _ :: _ :: _ :: _ :: (List.zipWith boxO bz s.mail ++ R).set c (boxO b' l') = _
  rw [List.set_append_left _ _ (List.getElem?_eq_some_iff.1 h).1, zip_set]
  rfl
/-! ### how parts turn -/
theorem Ms.Wf.job {s : Ms} (h : s.Wf) {i : Nat} (hi : i < s.jobs.length) : ∃ y, s.jobs[i]? = some y ∧ y.job = i := ⟨_, List.getElem?_eq_getElem hi, h.jj _ _ (List.getElem?_eq_getElem hi)⟩
theorem Ms.Wf.of_mem {s : Ms} (h : s.Wf) {y : Lv} (hy : y ∈ s.jobs) : ∃ i : Nat, y.job = i ∧ s.jobs[i]? = some y := by
  obtain ⟨i, hi⟩ := List.getElem?_of_mem hy
  exact ⟨i, h.jj _ _ hi, hi⟩
theorem Ms.Wf.setJob {s : Ms} (h : s.Wf) {i : Nat} {y : Lv} (hy : y.job = i) (hk : 0 ≤ y.key ∧ y.key < 18374686479671623680) : Ms.Wf { s with jobs := s.jobs.set i y } where
  fine := h.fine
  chk := h.chk
  pl := h.pl
  pb := h.pb
  jl := by show ((s.jobs.set i y).length : Int) = _; rw [List.length_set]; exact h.jl
  jj := fun j z hz => by
    replace hz : (s.jobs.set i y)[j]? = some z := hz
    rw [List.getElem?_set] at hz
    by_cases e : i = j
    · subst e
      rw [if_pos rfl] at hz
      split at hz
      · cases hz; exact hy
      · cases hz
    · rw [if_neg e] at hz
      exact h.jj j z hz
  kb := fun z hz => by
    rcases List.mem_or_eq_of_mem_set hz with hz | rfl
    · exact h.kb z hz
    · exact hk
  fl := by show s.free.length ≤ (s.jobs.set i y).length; rw [List.length_set]; exact h.fl
  fb := fun j hj => by have := h.fb j hj; show 0 ≤ j ∧ j < ((s.jobs.set i y).length : Int); rw [List.length_set]; exact this
  ml := h.ml
  mb := fun l hl => ⟨(h.mb l hl).1, fun j hj => by have := (h.mb l hl).2 j hj; show 0 ≤ j ∧ j < ((s.jobs.set i y).length : Int); rw [List.length_set]; exact this⟩
  rl := h.rl
  rb := fun j hj => by have := h.rb j hj; show -1 ≤ j ∧ j < ((s.jobs.set i y).length : Int); rw [List.length_set]; exact this
  gl := h.gl
  sq := h.sq
theorem Ms.Wf.setRun {s : Ms} (h : s.Wf) {c : Nat} {i : Int} (hi : -1 ≤ i ∧ i < s.jobs.length) : Ms.Wf { s with runs := s.runs.set c i } :=
  { h with
    rl := by show ((s.runs.set c i).length : Int) = _; rw [List.length_set]; exact h.rl
    rb := fun j hj => by
      rcases List.mem_or_eq_of_mem_set hj with hj | rfl
      · exact h.rb j hj
      · exact hi }
theorem Ms.Wf.setFlag {s : Ms} (h : s.Wf) {c : Nat} {b : Bool} : Ms.Wf { s with flags := s.flags.set c b } :=
  { h with gl := by show ((s.flags.set c b).length : Int) = _; rw [List.length_set]; exact h.gl }
theorem Ms.Wf.setMail {s : Ms} (h : s.Wf) {c : Nat} {l : List Int} (hl : (l.length : Int) ≤ s.su.room ∧ ∀ i ∈ l, 0 ≤ i ∧ i < s.jobs.length) : Ms.Wf { s with mail := s.mail.set c l } :=
  { h with
    ml := by show ((s.mail.set c l).length : Int) = _; rw [List.length_set]; exact h.ml
    mb := fun j hj => by
      rcases List.mem_or_eq_of_mem_set hj with hj | rfl
      · exact h.mb j hj
      · exact hl }
theorem Ms.Wf.setPassed {s : Ms} (h : s.Wf) {t : Nat} {p : Int} (hp : -1 ≤ p ∧ p ≤ 1099511627776) : Ms.Wf { s with passed := s.passed.set t p } :=
  { h with
    pl := by show (s.passed.set t p).length = _; rw [List.length_set]; exact h.pl
    pb := fun j hj => by
      rcases List.mem_or_eq_of_mem_set hj with hj | rfl
      · exact h.pb j hj
      · exact hp }
theorem Ms.Wf.setFree {s : Ms} (h : s.Wf) {l : List Int} (hl : l.length ≤ s.jobs.length) (hb : ∀ i ∈ l, 0 ≤ i ∧ i < s.jobs.length) : Ms.Wf { s with free := l } := { h with fl := hl, fb := hb }
theorem Ms.Wf.setSeq {s : Ms} (h : s.Wf) {q : Int} (hq : 0 ≤ q ∧ q ≤ 1152921504606846976) : Ms.Wf { s with seq := q } := { h with sq := hq }
theorem Bal.wf {s s' : Ms} (b : Bal s s') (h : s.Wf) : s'.Wf := by
  rcases b with ⟨_, rfl⟩ | ⟨z, c, w, _, _, _, rfl⟩
  · exact h
  · split
    · exact h
    · exact h.setFlag
theorem undB : EM.P.underlying 4 = some .bool := by kernel_rfl
theorem undI : EM.P.underlying 3 = some (.int .i64) := by kernel_rfl
section
variable {B0 S : AH} {W : List Nat} {own R : List Own} {ro : List Fct} {Q : Post} {k : AV → AC} {v : AV} {x : Nat} {s : Ms} {m : Mv}
/-! ### is it quiet? -/
theorem indexB_ok {l : List Bool} (H : Cx B0 W S own ro) (n : Nat) (hm : own[n]? = some (.sl v 1 (bls l))) (hl : l.length < 1000000) : wpC EM (.fn (.func 66) [] []) [v, B true] S fun r S' => (∃ i : Int, r = I i ∧ (0 ≤ i ↔ true ∈ l)) ∧ S' = S := by
  refine wpC_fn (b := Tryz.a66) rfl rfl ?_
  unfold Tryz.a66 Tryz.a66x2 Tryz.a66x1 Tryz.a66x0
  refine wp_leno H n hm ?_
  rw [bls_len]
  refine wp_bind (wp_loop (wpL_for l.length (fun i vs S1 => ∃ w : AV, vs = [I (i : Int), w] ∧ S1 = S ∧ true ∉ l.take i) ?_ ?_ ⟨_, rfl, rfl, by simp⟩))
  · rintro i vs S1 hlt ⟨w, rfl, rfl, hn⟩
    refine wp_lss_t (by omega) ?_
    try(refine zz ?_;(repeat constructor);intro _)
    refine wp_bind ?_
    refine wp_at (es := 1) H n hm (by rw [bls_len]; exact hlt) fun id off hp => ?_
    refine wp_atL0 H n hm hp (bls_get hlt) rfl ?_
    refine wp_op (e_eqb undB) ?_
    have e : (if false = true then !(true == l[i]) else (true == l[i])) = l[i] := by simp
    rw [e]
    refine wp_ite_b (fun h => ?_) (fun h => ?_)
    · try(refine zz ?_;(repeat constructor);intro _)
      exact wp_ret (.inr ⟨by simp, rfl, ⟨_, rfl, ⟨fun _ => by rw [← h]; exact List.getElem_mem hlt, fun _ => by omega⟩⟩, rfl⟩)
    · try(refine zz ?_;(repeat constructor);intro _)
      refine wp_ret ?_
      show wp EM _ _ _
      refine wp_add64 (by omega) (by omega) (wp_ret (.inl ⟨rfl, _, rfl, rfl, ?_⟩))
      rw [List.take_succ_eq_append_getElem hlt, h]
      simp; simpa using hn
  · rintro vs S1 ⟨w, rfl, rfl, hn⟩
    rw [List.take_length] at hn
    refine wp_lss_f (by omega) ?_
    try(refine zz ?_;(repeat constructor);intro _)
    refine wp_ret ⟨by simp, ?_⟩
    show wp EM _ _ _
    exact wp_ret ⟨rfl, ⟨-1, rfl, ⟨fun h => by omega, fun h => absurd h hn⟩⟩, rfl⟩
theorem containsB_ok {l : List Bool} (H : Cx B0 W S own ro) (n : Nat) (hm : own[n]? = some (.sl v 1 (bls l))) (hl : l.length < 1000000) : wpC EM (.fn (.func 46) [] []) [v, B true] S fun r S' => r = B (decide (true ∈ l)) ∧ S' = S := by
  refine wpC_fn (b := Tryz.a46) rfl rfl ?_
  unfold Tryz.a46
  refine wp_call (wpC_mono (indexB_ok H n hm hl) fun r S1 q => ?_)
  obtain ⟨⟨i, rfl, hi⟩, rfl⟩ := q
  refine wp_op e_geq ?_
  refine wp_ret ⟨rfl, ?_, rfl⟩
  have : decide (0 ≤ i) = decide (true ∈ l) := decide_eq_decide.2 hi
  rw [this]; rfl
theorem hasMail_ok (hb : m.bx.length = s.mail.length) (H : Cx B0 W S (mOwn x s m ++ R) ro) (hl : s.mail.length < 1000000) : wpC EM (.fn (.func 47) [] []) [m.vm, .fn (.func 48) [] []] S fun r S' => r = B (decide (∃ l ∈ s.mail, l ≠ [])) ∧ S' = S := by
  refine wpC_fn (b := Tryz.a47) rfl rfl ?_
  unfold Tryz.a47
  have H : Cx B0 W S (mOwnG x s m m.bx ++ R) ro := H
  have hidx : wpC EM (.fn (.func 67) [] []) [m.vm, .fn (.func 48) [] []] S fun r S' => (∃ i : Int, r = I i ∧ (0 ≤ i ↔ ∃ l ∈ s.mail, l ≠ [])) ∧ S' = S := by
    refine wpC_fn (b := Tryz.a67) rfl rfl ?_
    unfold Tryz.a67 Tryz.a67x2 Tryz.a67x1 Tryz.a67x0
    refine wp_leno H 4 rfl ?_
    rw [ptrs_len, hb]
    refine wp_bind (wp_loop (wpL_for s.mail.length (fun i vs S1 => ∃ w : AV, vs = [I (i : Int), w] ∧ S1 = S ∧ ¬ ∃ l ∈ s.mail.take i, l ≠ []) ?_ ?_ ⟨_, rfl, rfl, by simp⟩))
    · rintro i vs S1 hlt ⟨w, rfl, rfl, hn⟩
      have h1 : m.bx[i]? = some (m.bx[i]'(by omega)) := List.getElem?_eq_getElem _
      have h2 : s.mail[i]? = some s.mail[i] := List.getElem?_eq_getElem hlt
      generalize m.bx[i]'(by omega) = b at h1
      refine wp_lss_t (by omega) ?_
      try(refine zz ?_;(repeat constructor);intro _)
      refine wp_bind ?_
      refine wp_at (es := 1) H 4 rfl (by rw [ptrs_len]; omega) fun id off hp => ?_
      refine wp_atL0 H 4 rfl hp (ptrs_get? h1) rfl ?_
      have hq : wpC EM (.fn (.func 48) [] []) [b] S1 fun r S' => r = B (decide (0 < s.mail[i].length)) ∧ S' = S1 := by
        refine wpC_fn (b := Tryz.a48) rfl rfl ?_
        unfold Tryz.a48
        refine wp_leno H (i + 7) (box_get h1 h2) ?_
        rw [ints_len]
        refine wp_op e_gtr ?_
        refine wp_ret ⟨rfl, ?_, rfl⟩
        have : decide ((0 : Int) < (s.mail[i].length : Int)) = decide (0 < s.mail[i].length) := decide_eq_decide.2 (by omega)
        rw [this]; rfl
      refine wp_call (wpC_mono hq fun r S2 q => ?_)
      obtain ⟨rfl, rfl⟩ := q
      refine wp_ite_b (fun h => ?_) (fun h => ?_)
      · try(refine zz ?_;(repeat constructor);intro _)
        refine wp_ret (.inr ⟨by simp, rfl, ⟨_, rfl, ⟨fun _ => ⟨_, List.getElem_mem hlt, ?_⟩, fun _ => by omega⟩⟩, rfl⟩)
        intro e
        rw [e] at h; simp at h
      · try(refine zz ?_;(repeat constructor);intro _)
        refine wp_ret ?_
        show wp EM _ _ _
        refine wp_add64 (by omega) (by omega) (wp_ret (.inl ⟨rfl, _, rfl, rfl, ?_⟩))
        rw [List.take_succ_eq_append_getElem hlt]
        rintro ⟨l, hl, hne⟩
        rcases List.mem_append.1 hl with hl | hl
        · exact hn ⟨l, hl, hne⟩
        · rw [List.mem_singleton] at hl
          subst hl
          exact hne (List.eq_nil_of_length_eq_zero (by have := of_decide_eq_false h; omega))
    · rintro vs S1 ⟨w, rfl, rfl, hn⟩
      rw [List.take_length] at hn
      refine wp_lss_f (by omega) ?_
      try(refine zz ?_;(repeat constructor);intro _)
      refine wp_ret ⟨by simp, ?_⟩
      show wp EM _ _ _
      exact wp_ret ⟨rfl, ⟨-1, rfl, ⟨fun h => by omega, fun h => absurd h hn⟩⟩, rfl⟩
  refine wp_call (wpC_mono hidx fun r S1 q => ?_)
  obtain ⟨⟨i, rfl, hi⟩, rfl⟩ := q
  refine wp_op e_geq ?_
  refine wp_ret ⟨rfl, ?_, rfl⟩
  have : decide (0 ≤ i) = decide (∃ l ∈ s.mail, l ≠ []) := decide_eq_decide.2 hi
  rw [this]; rfl
def Ms.quiet (s : Ms) : Prop := true ∉ s.flags ∧ ∀ l ∈ s.mail, l = []
instance (s : Ms) : Decidable s.quiet := inferInstanceAs (Decidable (_ ∧ _))
theorem quiet_ok (wf : s.Wf) (hb : m.bx.length = s.mail.length) (H : Cx B0 W S (mOwn x s m ++ R) ro) : wpC EM (.fn (.func 18) [] []) [.ptr x 0] S fun r S' => r = B (decide s.quiet) ∧ S' = S := by
  refine wpC_fn (b := Tryz.a18) rfl rfl ?_
  unfold Tryz.a18 Tryz.a18x1 Tryz.a18x0
  have hc := wf.c64
  have hml := wf.ml
  have hgl := wf.gl
  refine wp_call (wpC_mono (nothing_ok (by have := wf.j64; omega) H) fun r S1 q => ?_)
  obtain ⟨rfl, rfl⟩ := q
  try(refine zz ?_;(repeat constructor);intro _)
  refine wp_row (j := 13) H 0 rfl rfl ?_
  try(refine zz ?_;(repeat constructor);intro _)
  refine wp_call (wpC_mono (containsB_ok H 6 rfl (by omega)) fun r S2 q => ?_)
  obtain ⟨rfl, rfl⟩ := q
  try(refine zz ?_;(repeat constructor);intro _)
  refine wp_ite_b (fun h => ?_) (fun h => ?_)
  · try(refine zz ?_;(repeat constructor);intro _)
    refine wp_ret ⟨rfl, ?_, rfl⟩
    rw [decide_eq_false (fun q => q.1 (of_decide_eq_true h))]; rfl
  · try(refine zz ?_;(repeat constructor);intro _)
    refine wp_row (j := 11) H 0 rfl rfl ?_
    refine wp_call (wpC_mono (hasMail_ok hb H (by omega)) fun r S2 q => ?_)
    obtain ⟨rfl, rfl⟩ := q
    refine wp_not ?_
    refine wp_ret ⟨rfl, ?_, rfl⟩
    have e : (!decide (∃ l ∈ s.mail, l ≠ [])) = decide s.quiet := by
      rw [← decide_not]
      refine decide_eq_decide.2 ⟨fun q => ⟨of_decide_eq_false h, fun l hl => Classical.byContradiction fun hne => q ⟨l, hl, hne⟩⟩, fun q ⟨l, hl, hne⟩ => hne (q.2 l hl)⟩
    rw [e]; rfl
theorem live_ok (wf : s.Wf) (hj : s.jobs.length ≤ 64) (H : Cx B0 W S (mOwn x s m ++ R) ro) : wpC EM (.fn (.func 20) [] []) [.ptr x 0] S fun r S' => ∃ L, StS (liv s.jobs) L ∧ L.length = (liv s.jobs).length ∧ Cx B0 W S' (.sl r 4 (lvs L) :: (mOwn x s m ++ R)) ro := by
  refine wpC_fn (b := Tryz.a20) rfl rfl ?_
  unfold Tryz.a20 Tryz.a20x0
  refine wp_call (wpC_mono (nothing_ok (by have := wf.j64; omega) H) fun r S1 q => ?_)
  obtain ⟨rfl, rfl⟩ := q
  try(refine zz ?_;(repeat constructor);intro _)
  refine wp_row (j := 9) H 0 rfl rfl ?_
  refine wp_call (wpC_mono (lives_ok wf hj H) fun r S2 q => ?_)
  exact wp_ret ⟨rfl, q⟩
end
end Go.Abs
namespace Go.Abs
open Go.Proofs
set_option maxRecDepth 100000
set_option linter.unusedVariables false
open Tsk (Tk tks tchk)
def Deal (kind at' now : Int) : AV := .agg [I kind, I at', I now]
def Ms.claim (s : Ms) (c : Nat) (z : Lv) : Ms := { s with jobs := s.jobs.set z.job.toNat ⟨z.job, 4, c, z.key⟩, runs := s.runs.set c z.job }
def PickR (s : Ms) (c : Nat) (r e : Int) (s' : Ms) : Prop :=
  (∃ i, s.runs[c]? = some i ∧ i ≠ -1 ∧ r = -1 ∧ e = 11 ∧ s' = s) ∨ (s.runs[c]? = some (-1) ∧ rdy s.jobs = [] ∧ r = -1 ∧ e = 15 ∧ s' = s) ∨
  ∃ z, s.runs[c]? = some (-1) ∧ IsLeast z (rdy s.jobs) ∧ r = z.job ∧ e = 0 ∧ Bal (s.claim c z) s'
def Ms.takes (s : Ms) (c : Nat) (y : Lv) (l : List Int) : Ms := { s with mail := s.mail.set c l, jobs := s.jobs.set y.job.toNat { y with st := 3 } }
def TakeR (s : Ms) (c : Nat) (r e : Int) (s' : Ms) : Prop :=
  (s.mail[c]? = some [] ∧ r = -1 ∧ e = 15 ∧ s' = s) ∨ ∃ i l y, s.mail[c]? = some (i :: l) ∧ s.jobs[i.toNat]? = some y ∧ r = i ∧ e = 0 ∧ Bal (s.takes c y l) s'
def Ms.ends (s : Ms) (c : Nat) (y : Lv) : Ms := { s with jobs := s.jobs.set y.job.toNat { y with st := 1, core := 0 }, runs := s.runs.set c (-1), free := y.job :: s.free }
def EndR (s : Ms) (c : Nat) (r e : Int) (s' : Ms) : Prop :=
  (s.runs[c]? = some (-1) ∧ r = -1 ∧ e = 15 ∧ s' = s) ∨ ∃ i y, s.runs[c]? = some i ∧ i ≠ -1 ∧ s.jobs[i.toNat]? = some y ∧ r = i ∧ e = 0 ∧ Bal (s.ends c y) s'
theorem Ms.Wf.least {s : Ms} (h : s.Wf) {z : Lv} (hz : IsLeast z (rdy s.jobs)) : ∃ i : Nat, z.job = i ∧ s.jobs[i]? = some z ∧ z.st = 3 := by
  have hm := List.mem_filter.1 hz.1
  obtain ⟨i, h1, h2⟩ := h.of_mem hm.1
  exact ⟨i, h1, h2, by simpa using hm.2⟩
theorem Ms.Wf.claim {s : Ms} (h : s.Wf) {c : Nat} {z : Lv} (hz : IsLeast z (rdy s.jobs)) : (s.claim c z).Wf := by
  obtain ⟨i, h1, h2, _⟩ := h.least hz
  have hi := (List.getElem?_eq_some_iff.1 h2).1
  have := (h.setJob (i := i) (y := ⟨z.job, 4, c, z.key⟩) h1 (h.kb z (List.mem_of_getElem? h2))).setRun (c := c) (i := z.job) (by show -1 ≤ z.job ∧ z.job < ((s.jobs.set i _).length : Int); rw [List.length_set, h1]; omega)
  unfold Ms.claim
  rw [h1] at this ⊢
  exact this
section
variable {B0 S : AH} {W : List Nat} {own R : List Own} {ro : List Fct} {Q : Post} {k : AV → AC} {v : AV} {x : Nat} {s : Ms} {m : Mv}
set_option maxHeartbeats 1000000 in
theorem pick_ok' {kind now : Int} {c : Nat} (wf : s.Wf) (hj : s.jobs.length ≤ 64) (hc : (c : Int) < s.su.cores) (H : Cx B0 W S (mOwn x s m ++ R) ro) :
    wpC EM (.fn (.func 56) [] []) [.ptr x 0, Deal kind c now] S fun u S' => ∃ r e s', u = .tup [I r, I e] ∧ PickR s c r e s' ∧ Cx B0 W S' (mOwn x s' m ++ R) ro := by
  refine wpC_fn (b := Tryz.a56) rfl rfl ?_
  unfold Tryz.a56 Tryz.a56x5 Tryz.a56x4 Tryz.a56x3 Tryz.a56x2 Tryz.a56x1 Tryz.a56x0
  have hrl := wf.rl
  have hcl : c < s.runs.length := by omega
  have hr : s.runs[c]? = some s.runs[c] := List.getElem?_eq_getElem hcl
  generalize s.runs[c] = i at hr
  refine wp_box H rfl fun b S1 H1 => ?_
  have H1 : Cx B0 W S1 (mOwn x s m ++ R) (.pt b 0 [I kind, I (c : Int), I now] :: ro) := H1
  try(refine zz ?_;(repeat constructor);intro _)
  refine wp_row (j := 12) H1 0 rfl rfl ?_
  try(refine zz ?_;(repeat constructor);intro _)
  refine wp_ld H1 (o := 1) (cs := [I kind, I (c : Int), I now]) (by repeat (first | exact List.Mem.head _ | apply List.Mem.tail)) rfl ?_
  refine wp_at (es := 1) H1 5 rfl (by rw [ints_len]; exact hcl) fun id off hp => ?_
  refine wp_atL0 H1 5 rfl hp (ints_get? hr) rfl ?_
  refine wp_neq (fun hne => ?_) (fun he => ?_)
  · try(refine zz ?_;(repeat constructor);intro _)
    exact wp_ret ⟨rfl, -1, 11, s, rfl, .inl ⟨i, hr, hne, rfl, rfl, rfl⟩, H1.tl⟩
  subst he
  try(refine zz ?_;(repeat constructor);intro _)
  refine wp_call (wpC_mono (ready_ok wf hj H1) fun l S2 q => ?_)
  obtain ⟨L, hL, hLl, H2⟩ := q
  refine wp_leno H2 0 rfl ?_
  rw [lvs_len]
  refine wp_eql (fun h0 => ?_) (fun h0 => ?_)
  · try(refine zz ?_;(repeat constructor);intro _)
    exact wp_ret ⟨rfl, -1, 15, s, rfl, .inr (.inl ⟨hr, List.eq_nil_of_length_eq_zero (by omega), rfl, rfl, rfl⟩), (H2.dropAt 0).tl⟩
  cases L with
  | nil => simp at h0
  | cons z L =>
  have hz := hL.head
  obtain ⟨n, h1, h2, h3⟩ := wf.least hz
  have hn := (List.getElem?_eq_some_iff.1 h2).1
  try(refine zz ?_;(repeat constructor);intro _)
  refine wp_at (es := 4) (i := 0) H2 0 rfl (by simp [lvs]) fun id off hp => ?_
  try(refine zz ?_;(repeat constructor);intro _)
  refine wp_atL H2 0 rfl hp (x := z.cs) rfl (j := 0) rfl ?_
  rw [h1]
  try(refine zz ?_;(repeat constructor);intro _)
  refine wp_row (j := 9) H2 1 rfl rfl ?_
  try(refine zz ?_;(repeat constructor);intro _)
  refine wp_row (j := 9) H2 1 rfl rfl ?_
  try(refine zz ?_;(repeat constructor);intro _)
  refine wp_ld H2 (o := 1) (cs := [I kind, I (c : Int), I now]) (by repeat (first | exact List.Mem.head _ | apply List.Mem.tail)) rfl ?_
  refine wp_at (es := 4) (i := n) H2 3 rfl (by rw [lvs_len]; exact hn) fun id off hp => ?_
  try(refine zz ?_;(repeat constructor);intro _)
  refine wp_atS H2 3 rfl hp (lvs_get? h2) (j := 1) rfl rfl (by omega) (by simp [Lv.cs]) fun S3 H3 => ?_
  have e1 : (lvs s.jobs).set n (z.cs.set 1 (I 4)) = lvs (s.jobs.set n { z with st := 4 }) := lvs_set s.jobs n { z with st := 4 }
  rw [e1] at H3
  have H3 : Cx B0 W S3 (.sl l 4 (lvs (z :: L)) :: (mOwn x { s with jobs := s.jobs.set n { z with st := 4 } } m ++ R)) (.pt b 0 [I kind, I (c : Int), I now] :: ro) := H3
  refine wp_chk1 H3 (cs := [I kind, I (c : Int), I now]) (off := 0) (j := 1) (by repeat (first | exact List.Mem.head _ | apply List.Mem.tail)) rfl beq_num ?_
  refine wp_at (es := 4) (i := n) H3 3 rfl (by rw [lvs_len]; simpa using hn) fun id off hp => ?_
  try(refine zz ?_;(repeat constructor);intro _)
  refine wp_atS H3 3 rfl hp (x := Lv.cs { z with st := 4 }) (lvs_get? (by rw [List.getElem?_set]; simp [hn])) (j := 2) rfl rfl (by omega) (by simp [Lv.cs]) fun S4 H4 => ?_
  have e2 : (lvs (s.jobs.set n { z with st := 4 })).set n ((Lv.cs { z with st := 4 }).set 2 (I (c : Int))) = lvs (s.jobs.set n ⟨z.job, 4, c, z.key⟩) := by
    have := lvs_set (s.jobs.set n { z with st := 4 }) n ⟨z.job, 4, c, z.key⟩
    rw [List.set_set] at this
    exact this
  rw [e2] at H4
  have H4 : Cx B0 W S4 (.sl l 4 (lvs (z :: L)) :: (mOwn x { s with jobs := s.jobs.set n ⟨z.job, 4, c, z.key⟩ } m ++ R)) (.pt b 0 [I kind, I (c : Int), I now] :: ro) := H4
  try(refine zz ?_;(repeat constructor);intro _)
  refine wp_row (j := 12) H4 1 rfl rfl ?_
  try(refine zz ?_;(repeat constructor);intro _)
  refine wp_ld H4 (o := 1) (cs := [I kind, I (c : Int), I now]) (by repeat (first | exact List.Mem.head _ | apply List.Mem.tail)) rfl ?_
  refine wp_at (es := 1) (i := c) H4 6 rfl (by rw [ints_len]; exact hcl) fun id off hp => ?_
  refine wp_atS0 H4 6 rfl hp (ints_get? hr) rfl rfl (by omega) (by simp) fun S5 H5 => ?_
  have e3 : (ints s.runs).set c ([I (-1)].set 0 (I (n : Int))) = ints (s.runs.set c n) := ints_set _ _ _
  rw [e3] at H5
  have H5 := H5.dropAt 0
  have e4 : s.claim c z = { s with jobs := s.jobs.set n ⟨z.job, 4, c, z.key⟩, runs := s.runs.set c n } := by unfold Ms.claim; rw [h1]; rfl
  have H5 : Cx B0 W S5 (mOwn x (s.claim c z) m ++ R) (.pt b 0 [I kind, I (c : Int), I now] :: ro) := by rw [e4]; exact H5
  refine wp_call (wpC_mono (balance_ok (wf.claim (c := c) hz) (by rw [e4]; show (s.jobs.set n _).length ≤ 64; rw [List.length_set]; exact hj) H5) fun _ S6 q => ?_)
  obtain ⟨s', hb, H6⟩ := q
  exact wp_ret ⟨rfl, _, _, s', rfl, .inr (.inr ⟨z, hr, hz, h1.symm, rfl, hb⟩), H6.tl⟩
theorem Ms.Wf.takes {s : Ms} (h : s.Wf) {c : Nat} {i : Int} {l : List Int} {y : Lv} (h1 : s.mail[c]? = some (i :: l)) (h2 : s.jobs[i.toNat]? = some y) : (s.takes c y l).Wf := by
  have hm := h.mb _ (List.mem_of_getElem? h1)
  have hy : y.job = (i.toNat : Int) := h.jj _ _ h2
  have := (h.setMail (c := c) (l := l) ⟨by have := hm.1; rw [List.length_cons] at this; omega, fun j hj => hm.2 j (List.mem_cons_of_mem _ hj)⟩).setJob (i := i.toNat) (y := { y with st := 3 }) hy (h.kb y (List.mem_of_getElem? h2))
  have e : y.job.toNat = i.toNat := by rw [hy, Int.toNat_natCast]
  unfold Ms.takes
  rw [e]
  exact this
set_option maxHeartbeats 1000000 in
theorem take_ok {kind now : Int} {c : Nat} (wf : s.Wf) (hbx : m.bx.length = s.mail.length) (hj : s.jobs.length ≤ 64) (hc : (c : Int) < s.su.cores) (H : Cx B0 W S (mOwn x s m ++ R) ro) :
    wpC EM (.fn (.func 55) [] []) [.ptr x 0, Deal kind c now] S fun u S' => ∃ r e s' m', u = .tup [I r, I e] ∧ TakeR s c r e s' ∧ m'.bx.length = s'.mail.length ∧ m'.vt = m.vt ∧ Cx B0 W S' (mOwn x s' m' ++ R) ro := by
  refine wpC_fn (b := Tryz.a55) rfl rfl ?_
  unfold Tryz.a55 Tryz.a55x3 Tryz.a55x2 Tryz.a55x1 Tryz.a55x0
  have hml := wf.ml
  have hcl : c < s.mail.length := by omega
  have h1 : m.bx[c]? = some (m.bx[c]'(by omega)) := List.getElem?_eq_getElem _
  generalize m.bx[c]'(by omega) = bo at h1
  have h2 : s.mail[c]? = some s.mail[c] := List.getElem?_eq_getElem hcl
  generalize s.mail[c] = bl at h2
  refine wp_box H rfl fun b S1 H1 => ?_
  have H1 : Cx B0 W S1 (mOwnG x s m m.bx ++ R) (.pt b 0 [I kind, I (c : Int), I now] :: ro) := H1
  try(refine zz ?_;(repeat constructor);intro _)
  refine wp_row (j := 11) H1 0 rfl rfl ?_
  try(refine zz ?_;(repeat constructor);intro _)
  refine wp_ld H1 (o := 1) (cs := [I kind, I (c : Int), I now]) (by repeat (first | exact List.Mem.head _ | apply List.Mem.tail)) rfl ?_
  refine wp_at (es := 1) H1 4 rfl (by rw [ptrs_len]; omega) fun id off hp => ?_
  try(refine zz ?_;(repeat constructor);intro _)
  refine wp_atL0 H1 4 rfl hp (ptrs_get? h1) rfl ?_
  refine wp_leno H1 (c + 7) (box_get h1 h2) ?_
  rw [ints_len]
  refine wp_eql (fun h0 => ?_) (fun h0 => ?_)
  · try(refine zz ?_;(repeat constructor);intro _)
    have : bl = [] := List.eq_nil_of_length_eq_zero (by omega)
    subst this
    exact wp_ret ⟨rfl, -1, 15, s, m, rfl, .inl ⟨h2, rfl, rfl, rfl⟩, hbx, rfl, H1.tl⟩
  cases bl with
  | nil => simp at h0
  | cons i l =>
  have hm := wf.mb _ (List.mem_of_getElem? h2)
  have hib := hm.2 i (List.mem_cons_self ..)
  obtain ⟨n, rfl⟩ : ∃ n : Nat, i = (n : Int) := ⟨i.toNat, by omega⟩
  have hn : n < s.jobs.length := by omega
  obtain ⟨y, hy, hyj⟩ := wf.job hn
  try(refine zz ?_;(repeat constructor);intro _)
  refine wp_atL0 H1 4 rfl hp (ptrs_get? h1) rfl ?_
  refine wp_at (es := 1) (i := 0) H1 (c + 7) (box_get h1 h2) (by simp [ints]) fun id2 off2 hp2 => ?_
  refine wp_atL0 H1 (c + 7) (box_get h1 h2) hp2 (x := [I (n : Int)]) rfl rfl ?_
  try(refine zz ?_;(repeat constructor);intro _)
  refine wp_atL0 H1 4 rfl hp (ptrs_get? h1) rfl ?_
  refine wp_call (wpC_mono (del0_ok H1 (c + 7) (box_get h1 h2)) fun u S2 H2 => ?_)
  have H2 : Cx B0 W S2 ((mOwnG x s m m.bx ++ R).set (c + 7) (boxO u l)) (.pt b 0 [I kind, I (c : Int), I now] :: ro) := H2
  rw [box_set h1 h2] at H2
  have hbz : (m.bx.set c u)[c]? = some u := by rw [List.getElem?_set]; simp; omega
  have hmz : ({ s with mail := s.mail.set c l } : Ms).mail[c]? = some l := by show (s.mail.set c l)[c]? = _; rw [List.getElem?_set]; simp [hcl]
  obtain ⟨ho1, ho2⟩ := slOk_odd1 (ownSl_ok (H2.oh _ (List.mem_of_getElem? (box_get hbz hmz))))
  try(refine zz ?_;(repeat constructor);intro _)
  refine wp_atS0 H2 4 rfl hp (ptrs_get? h1) ho1 ho2 (by omega) (by simp) fun S3 H3 => ?_
  have e1 : (ptrs m.bx).set c ([bo].set 0 u) = ptrs (m.bx.set c u) := ptrs_set _ _ _
  rw [e1] at H3
  have H3 : Cx B0 W S3 (mOwn x { s with mail := s.mail.set c l } { m with bx := m.bx.set c u } ++ R) (.pt b 0 [I kind, I (c : Int), I now] :: ro) := H3
  try(refine zz ?_;(repeat constructor);intro _)
  refine wp_row (j := 9) H3 0 rfl rfl ?_
  refine wp_at (es := 4) (i := n) H3 2 rfl (by rw [lvs_len]; exact hn) fun id off hp => ?_
  try(refine zz ?_;(repeat constructor);intro _)
  refine wp_atS H3 2 rfl hp (lvs_get? hy) (j := 1) rfl rfl (by omega) (by simp [Lv.cs]) fun S4 H4 => ?_
  have e2 : (lvs s.jobs).set n (y.cs.set 1 (I 3)) = lvs (s.jobs.set n { y with st := 3 }) := lvs_set s.jobs n { y with st := 3 }
  have H4 : Cx B0 W S4 (mOwn x (s.takes c y l) { m with bx := m.bx.set c u } ++ R) (.pt b 0 [I kind, I (c : Int), I now] :: ro) := by
    have e3 : y.job.toNat = n := by rw [hyj]; simp
    have H4 : Cx B0 W S4 ((mOwn x { s with mail := s.mail.set c l } { m with bx := m.bx.set c u } ++ R).set 2 (.sl m.vj 4 ((lvs s.jobs).set n (y.cs.set 1 (I 3))))) (.pt b 0 [I kind, I (c : Int), I now] :: ro) := H4
    rw [e2] at H4
    unfold Ms.takes
    rw [e3]
    exact H4
  have hy' : s.jobs[((n : Int)).toNat]? = some y := by simpa using hy
  refine wp_call (wpC_mono (balance_ok (wf.takes h2 hy') (by show (s.jobs.set _ _).length ≤ 64; rw [List.length_set]; exact hj) H4) fun _ S6 q => ?_)
  obtain ⟨s', hb, H6⟩ := q
  refine wp_ret ⟨rfl, _, _, s', { m with bx := m.bx.set c u }, rfl, .inr ⟨n, l, y, h2, hy', rfl, rfl, hb⟩, ?_, rfl, H6.tl⟩
  have : s'.mail = s.mail.set c l := by
    rcases hb with ⟨_, rfl⟩ | ⟨_, _, _, _, _, _, rfl⟩
    · rfl
    · split <;> rfl
  rw [this]
  simp [hbx]
end
end Go.Abs
namespace Go.Abs
open Go.Proofs
set_option maxRecDepth 100000
set_option linter.unusedVariables false
open Tsk (Tk tks tchk)
section
variable {M : Mach} {B0 S : AH} {W : List Nat} {own R : List Own} {ro : List Fct} {Q : Post} {k : AV → AC} {v : AV} {x : Nat} {s : Ms} {m : Mv}
theorem wp_paddr {len es id o i : Nat} (hi : i < len) (h : wp M (k (.ptr id (o + i * es))) S Q) : wp M (.op (.paddr len es (.ptr id o) (I (i : Int))) k) S Q := by
  refine wp_op (v := .ptr id (o + i * es)) ?_ h
  have h3 : idx? (I (i : Int)) len = some i := by
    show below i len = some i
    unfold below; rw [ble_t (by omega)]
  show pur (pPaddr len es (.ptr id o) (I (i : Int))) S = _
  unfold pPaddr
  simp only [h3]
  rfl
theorem wp_andU {a b : Nat} (ha : a < 18446744073709551616) (hb : b < 18446744073709551616) (h : wp M (k (U ((a &&& b : Nat) : Int))) S Q) : wp M (.op (.bin .and (U (a : Int)) (U (b : Int))) k) S Q := wp_op (v := U ((a &&& b : Nat) : Int)) (by
  show pur (bAnd (U (a : Int)) (U (b : Int))) S = _
  unfold bAnd
  simp only [int2, asInt, vInt, kindEq_refl]
  have e : (BitVec.ofInt IntKind.u64.bits (a : Int) &&& BitVec.ofInt IntKind.u64.bits (b : Int)).toNat = a &&& b := by
    rw [BitVec.toNat_and]
    have x : ∀ n : Nat, n < 18446744073709551616 → (BitVec.ofInt IntKind.u64.bits (n : Int)).toNat = n := by
      intro n hn
      show (BitVec.ofInt 64 (n : Int)).toNat = n
      rw [BitVec.ofInt_natCast, BitVec.toNat_ofNat]
      exact Nat.mod_eq_of_lt hn
    rw [x a ha, x b hb]
  have hor : a &&& b < 18446744073709551616 := Nat.lt_of_le_of_lt Nat.and_le_left ha
  show pur (some (AV.sc (.int .u64 (wrapF .u64 ((BitVec.ofInt IntKind.u64.bits (a : Int) &&& BitVec.ofInt IntKind.u64.bits (b : Int)).toNat : Nat))))) S = _
  rw [e, wrapU hor]; rfl) h
theorem takeW_ok {S : AH} {w f m : Nat} (hw : w < 18446744073709551616) (hf : f ≤ 64) (hm : m ≤ 48) : wpC EM (.fn (.func 93) [] []) [U (w : Int), .agg [I (f : Int), I (m : Int)]] S fun r S' => r = I ((w / 2 ^ f % 2 ^ m : Nat) : Int) ∧ Grows S S' := by
  refine wpC_fn (b := Tryz.a93) rfl rfl ?_
  have H : Cx S [] S [] [] := Cx.enter (by simp)
  unfold Tryz.a93 Tryz.a93x0
  refine wp_box H rfl fun b S1 H => ?_
  try(refine zz ?_;(repeat constructor);intro _)
  refine wp_ld H (o := 0) (cs := [I (f : Int), I (m : Int)]) (by repeat (first | exact List.Mem.head _ | apply List.Mem.tail)) rfl ?_
  refine wp_shrU (s := f) (by omega) hf ?_
  try(refine zz ?_;(repeat constructor);intro _)
  refine wp_ld H (o := 1) (cs := [I (f : Int), I (m : Int)]) (by repeat (first | exact List.Mem.head _ | apply List.Mem.tail)) rfl ?_
  have h48 : 2 ^ m ≤ 2 ^ 48 := Nat.pow_le_pow_right (by omega) hm
  have h1 : 1 ≤ 2 ^ m := Nat.one_le_two_pow
  refine wp_shlU (n := 1) (s := m) (by omega) (by omega) ?_
  refine wp_sub (c := ((2 ^ m - 1 : Nat) : Int)) ?_ ?_
  · have e : (((1 * 2 ^ m : Nat) : Int) - 1) = ((2 ^ m - 1 : Nat) : Int) := by omega
    rw [e]; exact wrapU (by omega)
  have hq : w / 2 ^ f < 18446744073709551616 := Nat.lt_of_le_of_lt (Nat.div_le_self _ _) hw
  refine wp_andU hq (by omega) ?_
  rw [Nat.and_two_pow_sub_one_eq_mod]
  have hr : w / 2 ^ f % 2 ^ m < 2 ^ m := Nat.mod_lt _ (by omega)
  refine wp_conv (c := ((w / 2 ^ f % 2 ^ m : Nat) : Int)) (wrap64 (by omega) (by omega)) ?_
  exact wp_ret ⟨rfl, rfl, H.grows⟩
theorem getKey_ok {S : AH} {w : Nat} (hw : w < 18374686479671623680) : wpC EM (.fn (.func 78) [] []) [U (w : Int)] S fun r S' => r = .tup [.agg [I ((w / 72057594037927936 : Nat) : Int), I ((w / 65536 % 1099511627776 : Nat) : Int), I ((w % 65536 : Nat) : Int)], I 0] ∧ Grows S S' := by
  refine wpC_fn (b := Tryz.a78) rfl rfl ?_
  have H : Cx S [] S [] [] := Cx.enter (by simp)
  unfold Tryz.a78 Tryz.a78x3 Tryz.a78x2 Tryz.a78x1 Tryz.a78x0
  refine wp_fin ?_
  refine wp_alloc H fun p S1 H => ?_
  refine wp_callV H keys_ok fun S2 H => ?_
  refine wp_alloc H fun q S3 H => ?_
  refine wp_store (v := .agg keyTab) H 0 rfl rfl rfl (Nat.le_of_ble_eq_true rfl) fun S4 H => ?_
  have H : Cx S [] S4 [.obj p (.row [I 0, I 0, I 0])] [.pt q 0 keyTab] := H.freeze (i := 0) (c := keyTab) rfl
  refine wp_paddr (i := 0) (by omega) ?_
  refine wp_ldn H (o := 0) (cs := keyTab) (by repeat (first | exact List.Mem.head _ | apply List.Mem.tail)) rfl ?_
  refine wp_paddr (i := 1) (by omega) ?_
  refine wp_ldn H (o := 2) (cs := keyTab) (by repeat (first | exact List.Mem.head _ | apply List.Mem.tail)) rfl ?_
  refine wp_paddr (i := 2) (by omega) ?_
  refine wp_ldn H (o := 4) (cs := keyTab) (by repeat (first | exact List.Mem.head _ | apply List.Mem.tail)) rfl ?_
  refine wp_alloc H fun u S5 H => ?_
  refine wp_callV H (takeW_ok (w := w) (f := 0) (m := 16) (by omega) (by omega) (by omega)) fun S6 H => ?_
  refine wp_chkn H (off := 0) (j := 2) (n := 2) (cs := keyTab) (by repeat (first | exact List.Mem.head _ | apply List.Mem.tail)) (Nat.le_of_ble_eq_true rfl) (l := [I 16, I 40]) rfl (fun x hx => by simp only [List.mem_cons, List.not_mem_nil, or_false] at hx; rcases hx with rfl | rfl <;> exact beq_num) ?_
  refine wp_chkn H (off := 0) (j := 4) (n := 2) (cs := keyTab) (by repeat (first | exact List.Mem.head _ | apply List.Mem.tail)) (Nat.le_of_ble_eq_true rfl) (l := [I 56, I 8]) rfl (fun x hx => by simp only [List.mem_cons, List.not_mem_nil, or_false] at hx; rcases hx with rfl | rfl <;> exact beq_num) ?_
  refine wp_callV H (takeW_ok (w := w) (f := 16) (m := 40) (by omega) (by omega) (by omega)) fun S7 H => ?_
  refine wp_chkn H (off := 0) (j := 4) (n := 2) (cs := keyTab) (by repeat (first | exact List.Mem.head _ | apply List.Mem.tail)) (Nat.le_of_ble_eq_true rfl) (l := [I 56, I 8]) rfl (fun x hx => by simp only [List.mem_cons, List.not_mem_nil, or_false] at hx; rcases hx with rfl | rfl <;> exact beq_num) ?_
  refine wp_callV H (takeW_ok (w := w) (f := 56) (m := 8) (by omega) (by omega) (by omega)) fun S8 H => ?_
  have e1 : w / 2 ^ 56 % 2 ^ 8 = w / 72057594037927936 := by omega
  have e2 : w / 2 ^ 16 % 2 ^ 40 = w / 65536 % 1099511627776 := by omega
  have e3 : w / 2 ^ 0 % 2 ^ 16 = w % 65536 := by omega
  rw [e1, e2, e3]
  generalize hP : w / 72057594037927936 = P
  generalize w / 65536 % 1099511627776 = Sq
  generalize w % 65536 = Rd
  refine wp_op (v := .agg [I (P : Int), I (Sq : Int), I (Rd : Int)]) rfl ?_
  refine wp_store (v := .agg [I (P : Int), I (Sq : Int), I (Rd : Int)]) H 0 rfl rfl rfl (Nat.le_of_ble_eq_true rfl) fun S9 H => ?_
  have H : Cx S [] S9 [.obj u (.row [I (P : Int), I (Sq : Int), I (Rd : Int)]), .obj p (.row [I 0, I 0, I 0])] [.pt q 0 keyTab] := H
  try(refine zz ?_;(repeat constructor);intro _)
  refine wp_row (j := 0) H 0 rfl rfl ?_
  refine wp_gtr_f (by omega) ?_
  try(refine zz ?_;(repeat constructor);intro _)
  refine wp_loadoa (n := 3) (off := 0) H 0 rfl (Nat.le_of_ble_eq_true rfl) ?_
  refine wp_store (v := .agg [I (P : Int), I (Sq : Int), I (Rd : Int)]) H 1 rfl rfl rfl (Nat.le_of_ble_eq_true rfl) fun S10 H => ?_
  have H : Cx S [] S10 [.obj u (.row [I (P : Int), I (Sq : Int), I (Rd : Int)]), .obj p (.row [I (P : Int), I (Sq : Int), I (Rd : Int)])] [.pt q 0 keyTab] := H
  refine wp_ret ⟨.inr rfl, ?_⟩
  refine wp_loadoa (n := 3) (off := 0) H 1 rfl (Nat.le_of_ble_eq_true rfl) ?_
  exact wp_ret ⟨rfl, rfl, H.grows⟩
theorem Ms.Wf.run {s : Ms} (h : s.Wf) {c : Nat} {i : Int} (hr : s.runs[c]? = some i) (hi : i ≠ -1) : ∃ n : Nat, i = n ∧ ∃ y, s.jobs[n]? = some y ∧ y.job = n := by
  have hb := h.rb _ (List.mem_of_getElem? hr)
  refine ⟨i.toNat, by omega, ?_⟩
  exact h.job (by omega)
theorem Ms.Wf.ends {s : Ms} (h : s.Wf) {c n : Nat} {y : Lv} (hy : s.jobs[n]? = some y) (hyj : y.job = n) (hf : s.free.length < s.jobs.length) : (s.ends c y).Wf := by
  have hn := (List.getElem?_eq_some_iff.1 hy).1
  have := ((h.setJob (i := n) (y := { y with st := 1, core := 0 }) hyj (h.kb y (List.mem_of_getElem? hy))).setRun (c := c) (i := -1) ⟨by omega, by omega⟩).setFree (l := y.job :: s.free) (by show s.free.length + 1 ≤ (s.jobs.set n _).length; rw [List.length_set]; omega) (fun i hi => by
    show 0 ≤ i ∧ i < ((s.jobs.set n _).length : Int)
    rw [List.length_set]
    rcases List.mem_cons.1 hi with rfl | hi
    · omega
    · exact h.fb i hi)
  unfold Ms.ends
  have e : y.job.toNat = n := by rw [hyj, Int.toNat_natCast]
  rw [e]
  exact this
set_option maxHeartbeats 1000000 in
theorem complete_ok {kind now : Int} {c : Nat} (wf : s.Wf) (hj : s.jobs.length ≤ 64) (hc : (c : Int) < s.su.cores) (hf : ∀ i, s.runs[c]? = some i → i ≠ -1 → s.free.length < s.jobs.length) (H : Cx B0 W S (mOwn x s m ++ R) ro) :
    wpC EM (.fn (.func 58) [] []) [.ptr x 0, Deal kind c now] S fun u S' => ∃ r e s' m', u = .tup [I r, I e] ∧ EndR s c r e s' ∧ m'.bx = m.bx ∧ m'.vt = m.vt ∧ Cx B0 W S' (mOwn x s' m' ++ R) ro := by
  refine wpC_fn (b := Tryz.a58) rfl rfl ?_
  unfold Tryz.a58 Tryz.a58x5 Tryz.a58x4 Tryz.a58x3 Tryz.a58x2 Tryz.a58x1 Tryz.a58x0
  have hrl := wf.rl
  have hcl : c < s.runs.length := by omega
  have hr : s.runs[c]? = some s.runs[c] := List.getElem?_eq_getElem hcl
  generalize s.runs[c] = i at hr
  refine wp_box H rfl fun b S1 H1 => ?_
  have H1 : Cx B0 W S1 (mOwn x s m ++ R) (.pt b 0 [I kind, I (c : Int), I now] :: ro) := H1
  try(refine zz ?_;(repeat constructor);intro _)
  refine wp_row (j := 12) H1 0 rfl rfl ?_
  try(refine zz ?_;(repeat constructor);intro _)
  refine wp_ld H1 (o := 1) (cs := [I kind, I (c : Int), I now]) (by repeat (first | exact List.Mem.head _ | apply List.Mem.tail)) rfl ?_
  refine wp_at (es := 1) H1 5 rfl (by rw [ints_len]; exact hcl) fun id off hp => ?_
  refine wp_atL0 H1 5 rfl hp (ints_get? hr) rfl ?_
  refine wp_eql (fun he => ?_) (fun hne => ?_)
  · subst he
    try(refine zz ?_;(repeat constructor);intro _)
    exact wp_ret ⟨rfl, -1, 15, s, m, rfl, .inl ⟨hr, rfl, rfl, rfl⟩, rfl, rfl, H1.tl⟩
  have hf := hf i hr hne
  obtain ⟨n, rfl, y, hy, hyj⟩ := wf.run hr hne
  have hn := (List.getElem?_eq_some_iff.1 hy).1
  try(refine zz ?_;(repeat constructor);intro _)
  refine wp_row (j := 9) H1 0 rfl rfl ?_
  try(refine zz ?_;(repeat constructor);intro _)
  refine wp_row (j := 9) H1 0 rfl rfl ?_
  refine wp_at (es := 4) (i := n) H1 2 rfl (by rw [lvs_len]; exact hn) fun id off hp => ?_
  try(refine zz ?_;(repeat constructor);intro _)
  refine wp_atS H1 2 rfl hp (lvs_get? hy) (j := 1) rfl rfl (by omega) (by simp [Lv.cs]) fun S3 H3 => ?_
  have e1 : (lvs s.jobs).set n (y.cs.set 1 (I 1)) = lvs (s.jobs.set n { y with st := 1 }) := lvs_set s.jobs n { y with st := 1 }
  rw [e1] at H3
  have H3 : Cx B0 W S3 (mOwn x { s with jobs := s.jobs.set n { y with st := 1 } } m ++ R) (.pt b 0 [I kind, I (c : Int), I now] :: ro) := H3
  refine wp_at (es := 4) (i := n) H3 2 rfl (by rw [lvs_len]; simpa using hn) fun id off hp => ?_
  try(refine zz ?_;(repeat constructor);intro _)
  refine wp_atS H3 2 rfl hp (x := Lv.cs { y with st := 1 }) (lvs_get? (by rw [List.getElem?_set]; simp [hn])) (j := 2) rfl rfl (by omega) (by simp [Lv.cs]) fun S4 H4 => ?_
  have e2 : (lvs (s.jobs.set n { y with st := 1 })).set n ((Lv.cs { y with st := 1 }).set 2 (I 0)) = lvs (s.jobs.set n { y with st := 1, core := 0 }) := by
    have := lvs_set (s.jobs.set n { y with st := 1 }) n { y with st := 1, core := 0 }
    rw [List.set_set] at this
    exact this
  rw [e2] at H4
  have H4 : Cx B0 W S4 (mOwn x { s with jobs := s.jobs.set n { y with st := 1, core := 0 } } m ++ R) (.pt b 0 [I kind, I (c : Int), I now] :: ro) := H4
  try(refine zz ?_;(repeat constructor);intro _)
  refine wp_row (j := 12) H4 0 rfl rfl ?_
  try(refine zz ?_;(repeat constructor);intro _)
  refine wp_ld H4 (o := 1) (cs := [I kind, I (c : Int), I now]) (by repeat (first | exact List.Mem.head _ | apply List.Mem.tail)) rfl ?_
  refine wp_at (es := 1) (i := c) H4 5 rfl (by rw [ints_len]; exact hcl) fun id off hp => ?_
  refine wp_atS0 H4 5 rfl hp (ints_get? hr) rfl rfl (by omega) (by simp) fun S5 H5 => ?_
  have e3 : (ints s.runs).set c ([I (n : Int)].set 0 (I (-1))) = ints (s.runs.set c (-1)) := ints_set _ _ _
  rw [e3] at H5
  have H5 : Cx B0 W S5 (mOwn x { s with jobs := s.jobs.set n { y with st := 1, core := 0 }, runs := s.runs.set c (-1) } m ++ R) (.pt b 0 [I kind, I (c : Int), I now] :: ro) := H5
  have h64 := wf.j64
  try(refine zz ?_;(repeat constructor);intro _)
  refine wp_row (j := 10) H5 0 rfl rfl ?_
  refine wp_insert (i := 0) (bytes := 8) H5 3 rfl (by omega) rfl rfl rfl (by rw [ints_len]; unfold maxBytes; show (s.free.length + 1) * 8 ≤ _; omega) (by rw [ints_len]; unfold maxLenN; show s.free.length + 1 ≤ _; omega) (fun _ => rfl) rfl rfl fun v1 S6 H6 => ?_
  have H6 : Cx B0 W S6 ((mOwn x { s with jobs := s.jobs.set n { y with st := 1, core := 0 }, runs := s.runs.set c (-1) } m ++ R).set 3 (.sl v1 1 (ints ((n : Int) :: s.free)))) (.pt b 0 [I kind, I (c : Int), I now] :: ro) := H6
  obtain ⟨ho1, ho2⟩ := slOk_odd1 (ownSl_ok (H6.oh (.sl v1 1 (ints ((n : Int) :: s.free))) (List.mem_of_getElem? (i := 3) rfl)))
  try(refine zz ?_;(repeat constructor);intro _)
  refine wp_set1 (j := 10) H6 0 rfl (by simp [Ms.row, Su.cs]) ho1 ho2 fun S7 H7 => ?_
  have e4 : s.ends c y = { s with jobs := s.jobs.set n { y with st := 1, core := 0 }, runs := s.runs.set c (-1), free := (n : Int) :: s.free } := by
    unfold Ms.ends
    rw [hyj, Int.toNat_natCast]
  have H7 : Cx B0 W S7 (mOwn x (s.ends c y) { m with vf := v1 } ++ R) (.pt b 0 [I kind, I (c : Int), I now] :: ro) := by rw [e4]; exact H7
  refine wp_call (wpC_mono (balance_ok (wf.ends hy hyj hf) (by show (s.jobs.set _ _).length ≤ 64; rw [List.length_set]; exact hj) H7) fun _ S6 q => ?_)
  obtain ⟨s', hb, H8⟩ := q
  exact wp_ret ⟨rfl, _, _, s', { m with vf := v1 }, rfl, .inr ⟨n, y, hr, hne, by simpa using hy, rfl, rfl, hb⟩, rfl, rfl, H8.tl⟩
end
end Go.Abs
namespace Go.Abs
open Go.Proofs
set_option maxRecDepth 100000
set_option linter.unusedVariables false
open Tsk (Tk tks tchk tks_len tks_get)
theorem beq_sl {S : AH} {v : AV} {es : Nat} {L : List (List AV)} (hv : slOk S v es L) : AV.beq v v = true := by
  rcases hv with ⟨rfl, _⟩ | ⟨id, off, c, (⟨cap, _, _, rfl⟩ | ⟨cap, _, _, rfl⟩), _⟩
  · rfl
  · show (Nat.beq id id && Nat.beq off off && Nat.beq L.length L.length && Nat.beq cap cap) = true
    simp only [Nat.beq_refl, Bool.and_self]
  · show (Nat.beq id id && Nat.beq off off && Nat.beq L.length L.length && Nat.beq cap cap && Nat.beq es es) = true
    simp only [Nat.beq_refl, Bool.and_self]
def Ms.gives (s : Ms) (c : Nat) (y : Lv) : Ms := { s with flags := s.flags.set c false, jobs := s.jobs.set y.job.toNat ⟨y.job, 3, 0, y.key + 1⟩, runs := s.runs.set c (-1) }
def Ms.drops (s : Ms) (c : Nat) : Ms := { s with flags := s.flags.set c false }
def ThenPick (s : Ms) (c : Nat) (r e : Int) (s' : Ms) : Prop := ∃ r0 e0, PickR s c r0 e0 s' ∧ if e0 = 15 then r = -1 ∧ e = 0 else r = r0 ∧ e = e0
def ServeR (s : Ms) (c : Nat) (r e : Int) (s' : Ms) : Prop :=
  (s.flags[c]? = some false ∧ r = -1 ∧ e = 15 ∧ s' = s) ∨
  (s.flags[c]? = some true ∧ s.runs[c]? = some (-1) ∧ ThenPick (s.drops c) c r e s') ∨
  ∃ i y, s.flags[c]? = some true ∧ s.runs[c]? = some i ∧ i ≠ -1 ∧ s.jobs[i.toNat]? = some y ∧
    ((y.key % 65536 = 65535 ∧ r = -1 ∧ e = 12 ∧ s' = s.drops c) ∨ (y.key % 65536 ≠ 65535 ∧ ThenPick (s.gives c y) c r e s'))
theorem Ms.Wf.gives {s : Ms} (h : s.Wf) {c n : Nat} {y : Lv} (hy : s.jobs[n]? = some y) (hyj : y.job = n) (hk : y.key % 65536 ≠ 65535) : (s.gives c y).Wf := by
  have hb := h.kb y (List.mem_of_getElem? hy)
  have := ((h.setFlag (c := c) (b := false)).setJob (i := n) (y := ⟨y.job, 3, 0, y.key + 1⟩) hyj ⟨by show 0 ≤ y.key + 1; omega, by show y.key + 1 < 18374686479671623680; omega⟩).setRun (c := c) (i := -1) ⟨by omega, by omega⟩
  unfold Ms.gives
  have e : y.job.toNat = n := by rw [hyj, Int.toNat_natCast]
  rw [e]
  exact this
section
variable {B0 S : AH} {W : List Nat} {own R : List Own} {ro : List Fct} {Q : Post} {k : AV → AC} {v : AV} {x : Nat} {s : Ms} {m : Mv}
set_option maxHeartbeats 1000000 in
theorem serve_ok {kind now : Int} {c : Nat} (wf : s.Wf) (hj : s.jobs.length ≤ 64) (hc : (c : Int) < s.su.cores) (H : Cx B0 W S (mOwn x s m ++ R) ro) :
    wpC EM (.fn (.func 57) [] []) [.ptr x 0, Deal kind c now] S fun u S' => ∃ r e s', u = .tup [I r, I e] ∧ ServeR s c r e s' ∧ Cx B0 W S' (mOwn x s' m ++ R) ro := by
  refine wpC_fn (b := Tryz.a57) rfl rfl ?_
  unfold Tryz.a57 Tryz.a57x9 Tryz.a57x8 Tryz.a57x7 Tryz.a57x6 Tryz.a57x5 Tryz.a57x4 Tryz.a57x3 Tryz.a57x2 Tryz.a57x1 Tryz.a57x0
  have hrl := wf.rl
  have hgl := wf.gl
  have hcl : c < s.runs.length := by omega
  have hcg : c < s.flags.length := by omega
  have hr : s.runs[c]? = some s.runs[c] := List.getElem?_eq_getElem hcl
  generalize s.runs[c] = i at hr
  have hg : s.flags[c]? = some s.flags[c] := List.getElem?_eq_getElem hcg
  have hg1 : (bls s.flags)[c]? = some [B s.flags[c]] := bls_get hcg
  generalize s.flags[c] = g at hg hg1
  refine wp_box H rfl fun b S1 H1 => ?_
  have H1 : Cx B0 W S1 (mOwn x s m ++ R) (.pt b 0 [I kind, I (c : Int), I now] :: ro) := H1
  try(refine zz ?_;(repeat constructor);intro _)
  refine wp_ld H1 (o := 1) (cs := [I kind, I (c : Int), I now]) (by repeat (first | exact List.Mem.head _ | apply List.Mem.tail)) rfl ?_
  try(refine zz ?_;(repeat constructor);intro _)
  refine wp_row (j := 13) H1 0 rfl rfl ?_
  refine wp_at (es := 1) H1 6 rfl (by rw [bls_len]; exact hcg) fun id off hp => ?_
  refine wp_atL0 H1 6 rfl hp hg1 rfl ?_
  cases g with
  | false =>
    refine wp_notF ?_
    try(refine zz ?_;(repeat constructor);intro _)
    exact wp_ret ⟨rfl, -1, 15, s, rfl, .inl ⟨hg, rfl, rfl, rfl⟩, H1.tl⟩
  | true =>
  refine wp_notT ?_
  try(refine zz ?_;(repeat constructor);intro _)
  refine wp_row (j := 13) H1 0 rfl rfl ?_
  refine wp_at (es := 1) H1 6 rfl (by rw [bls_len]; exact hcg) fun id off hp => ?_
  refine wp_atS0 H1 6 rfl hp hg1 rfl rfl (by omega) (by simp) fun S2 H2 => ?_
  have e1 : (bls s.flags).set c ([B true].set 0 (B false)) = bls (s.flags.set c false) := bls_set ..
  rw [e1] at H2
  have H2 : Cx B0 W S2 (mOwn x (s.drops c) m ++ R) (.pt b 0 [I kind, I (c : Int), I now] :: ro) := H2
  have pk : ∀ {S3 : AH} {s1 : Ms}, s1.Wf → s1.jobs.length ≤ 64 → s1.su = s.su → Cx B0 W S3 (mOwn x s1 m ++ R) (.pt b 0 [I kind, I (c : Int), I now] :: ro) →
      wp EM (Tryz.a57x6 ([] ++ ([.ptr x 0, Deal kind c now] ++ [])) (.ptr b 0)) S3 fun t vs S' => t = .ret ∧ ∃ r e s', oneOf vs = .tup [I r, I e] ∧ ThenPick s1 c r e s' ∧ Cx B0 W S' (mOwn x s' m ++ R) ro := by
    intro S3 s1 wf1 hj1 hs1 H3
    unfold Tryz.a57x6
    refine wp_ldn H3 (o := 0) (n := 3) (cs := [I kind, I (c : Int), I now]) (by repeat (first | exact List.Mem.head _ | apply List.Mem.tail)) rfl ?_
    show wp EM (.call _ [.ptr x 0, Deal kind c now] _) _ _
    refine wp_call (wpC_mono (pick_ok' wf1 hj1 (by rw [hs1]; exact hc) H3) fun u S4 q => ?_)
    obtain ⟨r, e, s', rfl, hp, H4⟩ := q
    try(refine zz ?_;(repeat constructor);intro _)
    refine wp_eql (fun he => ?_) (fun he => ?_)
    · try(refine zz ?_;(repeat constructor);intro _)
      exact wp_ret ⟨rfl, -1, 0, s', rfl, ⟨r, e, hp, by rw [if_pos he]; exact ⟨rfl, rfl⟩⟩, H4.tl⟩
    · try(refine zz ?_;(repeat constructor);intro _)
      exact wp_ret ⟨rfl, r, e, s', rfl, ⟨r, e, hp, by rw [if_neg he]; exact ⟨rfl, rfl⟩⟩, H4.tl⟩
  unfold Tryz.a57x6 at pk
  try(refine zz ?_;(repeat constructor);intro _)
  refine wp_row (j := 12) H2 0 rfl rfl ?_
  refine wp_at (es := 1) H2 5 rfl (by rw [ints_len]; exact hcl) fun id off hp => ?_
  refine wp_atL0 H2 5 rfl hp (ints_get? hr) rfl ?_
  refine wp_neq (fun hne => ?_) (fun he => ?_)
  · obtain ⟨n, rfl, y, hy, hyj⟩ := wf.run hr hne
    have hn := (List.getElem?_eq_some_iff.1 hy).1
    have hkb := wf.kb y (List.mem_of_getElem? hy)
    refine wp_bind ?_
    try(refine zz ?_;(repeat constructor);intro _)
    refine wp_row (j := 9) H2 0 rfl rfl ?_
    refine wp_at (es := 4) (i := n) H2 2 rfl (by rw [lvs_len]; exact hn) fun id off hp => ?_
    try(refine zz ?_;(repeat constructor);intro _)
    refine wp_atL H2 2 rfl hp (lvs_get? hy) (j := 3) rfl ?_
    obtain ⟨w, hw⟩ : ∃ w : Nat, y.key = (w : Int) := ⟨y.key.toNat, by omega⟩
    rw [hw]
    refine wp_callV H2 (getKey_ok (w := w) (by omega)) fun S3 H3 => ?_
    try(refine zz ?_;(repeat constructor);intro _)
    refine wp_alloc H3 fun q S4 H4 => ?_
    refine wp_store H4 0 rfl rfl rfl (Nat.le_of_ble_eq_true rfl) fun S5 H5 => ?_
    have H5 : Cx B0 W S5 (.obj q (.row [I ((w / 72057594037927936 : Nat) : Int), I ((w / 65536 % 1099511627776 : Nat) : Int), I ((w % 65536 : Nat) : Int)]) :: (mOwn x (s.drops c) m ++ R)) (.pt b 0 [I kind, I (c : Int), I now] :: ro) := H5
    try(refine zz ?_;(repeat constructor);intro _)
    refine wp_row (j := 2) H5 0 rfl rfl ?_
    refine wp_add64 (by omega) (by omega) ?_
    try(refine zz ?_;(repeat constructor);intro _)
    refine wp_set1 (j := 2) H5 0 rfl (by simp) rfl rfl fun S6 H6 => ?_
    have H6 : Cx B0 W S6 (.obj q (.row [I ((w / 72057594037927936 : Nat) : Int), I ((w / 65536 % 1099511627776 : Nat) : Int), I (((w % 65536 : Nat) : Int) + 1)]) :: (mOwn x (s.drops c) m ++ R)) (.pt b 0 [I kind, I (c : Int), I now] :: ro) := H6
    refine wp_loadoa (n := 3) (off := 0) H6 0 rfl (Nat.le_of_ble_eq_true rfl) ?_
    refine wp_callV H6 putKey_ok fun S7 H7 => ?_
    have H7 := H7.dropAt 0
    have H7 : Cx B0 W S7 (mOwn x (s.drops c) m ++ R) (.pt b 0 [I kind, I (c : Int), I now] :: ro) := H7
    unfold putk
    have hy' : s.jobs[((n : Int)).toNat]? = some y := by simpa using hy
    by_cases hk : w % 65536 = 65535
    · rw [if_neg (by unfold kok; omega)]
      try(refine zz ?_;(repeat constructor);intro _)
      refine wp_neq_t (by omega) ?_
      try(refine zz ?_;(repeat constructor);intro _)
      exact wp_ret ⟨rfl, -1, 12, s.drops c, rfl, .inr (.inr ⟨n, y, hg, hr, hne, hy', .inl ⟨by omega, rfl, rfl, rfl⟩⟩), H7.tl⟩
    · rw [if_pos (by unfold kok; omega)]
      try(refine zz ?_;(repeat constructor);intro _)
      refine wp_neq_f rfl ?_
      try(refine zz ?_;(repeat constructor);intro _)
      refine wp_row (j := 9) H7 0 rfl rfl ?_
      have ek : kword ((w / 72057594037927936 : Nat) : Int) ((w / 65536 % 1099511627776 : Nat) : Int) (((w % 65536 : Nat) : Int) + 1) = y.key + 1 := by unfold kword; omega
      rw [ek]
      refine wp_op (v := .agg (Lv.cs ⟨n, 3, 0, y.key + 1⟩)) rfl ?_
      refine wp_at (es := 4) (i := n) H7 2 rfl (by rw [lvs_len]; exact hn) fun id off hp => ?_
      refine wp_atSn H7 2 rfl hp (lvs_get? hy) rfl rfl fun S8 H8 => ?_
      have e2 : (lvs s.jobs).set n (Lv.cs ⟨n, 3, 0, y.key + 1⟩) = lvs (s.jobs.set n ⟨n, 3, 0, y.key + 1⟩) := lvs_set s.jobs n ⟨n, 3, 0, y.key + 1⟩
      have H8 : Cx B0 W S8 ((mOwn x (s.drops c) m ++ R).set 2 (.sl m.vj 4 ((lvs s.jobs).set n (Lv.cs ⟨n, 3, 0, y.key + 1⟩)))) (.pt b 0 [I kind, I (c : Int), I now] :: ro) := H8
      rw [e2] at H8
      have H8 : Cx B0 W S8 (mOwn x { s.drops c with jobs := s.jobs.set n ⟨n, 3, 0, y.key + 1⟩ } m ++ R) (.pt b 0 [I kind, I (c : Int), I now] :: ro) := H8
      try(refine zz ?_;(repeat constructor);intro _)
      refine wp_row (j := 12) H8 0 rfl rfl ?_
      refine wp_at (es := 1) (i := c) H8 5 rfl (by rw [ints_len]; exact hcl) fun id off hp => ?_
      refine wp_atS0 H8 5 rfl hp (ints_get? hr) rfl rfl (by omega) (by simp) fun S9 H9 => ?_
      have e3 : (ints s.runs).set c ([I (n : Int)].set 0 (I (-1))) = ints (s.runs.set c (-1)) := ints_set _ _ _
      have H9 : Cx B0 W S9 ((mOwn x { s.drops c with jobs := s.jobs.set n ⟨n, 3, 0, y.key + 1⟩ } m ++ R).set 5 (.sl m.vr 1 ((ints s.runs).set c ([I (n : Int)].set 0 (I (-1)))))) (.pt b 0 [I kind, I (c : Int), I now] :: ro) := H9
      rw [e3] at H9
      have e4 : s.gives c y = { s.drops c with jobs := s.jobs.set n ⟨n, 3, 0, y.key + 1⟩, runs := s.runs.set c (-1) } := by
        unfold Ms.gives
        rw [hyj, Int.toNat_natCast]; rfl
      have H9 : Cx B0 W S9 (mOwn x (s.gives c y) m ++ R) (.pt b 0 [I kind, I (c : Int), I now] :: ro) := by rw [e4]; exact H9
      refine wp_ret ?_
      show wp EM _ _ _
      refine wp_mono (pk (wf.gives hy hyj (by omega)) (by rw [e4]; show (s.jobs.set n _).length ≤ 64; rw [List.length_set]; exact hj) rfl H9) fun t vs S' q => ?_
      obtain ⟨h1, r, e, s', h2, h3, h4⟩ := q
      exact ⟨h1, r, e, s', h2, .inr (.inr ⟨n, y, hg, hr, hne, hy', .inr ⟨by omega, h3⟩⟩), h4⟩
  · subst he
    refine wp_bind ?_
    try(refine zz ?_;(repeat constructor);intro _)
    refine wp_ret ?_
    show wp EM _ _ _
    refine wp_mono (pk wf.setFlag hj rfl H2) fun t vs S' q => ?_
    obtain ⟨h1, r, e, s', h2, h3, h4⟩ := q
    exact ⟨h1, r, e, s', h2, .inr (.inl ⟨hg, hr, h3⟩), h4⟩
end
end Go.Abs
namespace Go.Abs
open Go.Proofs
set_option maxRecDepth 100000
set_option linter.unusedVariables false
open Tsk (Tk tks tchk tks_len tks_get)
def Ms.rel (s : Ms) (i : Int) (f : List Int) (h : Nat) (box : List Int) (key : Int) : Ms := { s with free := f, jobs := s.jobs.set i.toNat ⟨i, 2, 0, key⟩, mail := s.mail.set h (box ++ [i]) }
def RelR (s : Ms) (t : Nat) (now r e : Int) (s' : Ms) : Prop := ∃ (last : Int) (a : Tk), s.passed[t]? = some last ∧ s.T[t]? = some a ∧
  ((last ≠ -1 ∧ (now < last ∨ now - last < a.every) ∧ r = -1 ∧ e = 13 ∧ s' = s) ∨
  (¬ (last ≠ -1 ∧ (now < last ∨ now - last < a.every)) ∧
    ((s.free = [] ∧ r = -1 ∧ e = 7 ∧ s' = { s with passed := s.passed.set t now }) ∨
    ∃ i f, s.free = i :: f ∧
      ((1099511627775 < s.seq + 1 ∧ r = -1 ∧ e = 12 ∧ s' = { s with passed := s.passed.set t now, seq := s.seq + 1 }) ∨
      (s.seq + 1 ≤ 1099511627775 ∧ ∃ (h : Nat) (box : List Int), (h : Int) = (t : Int) % s.su.cores ∧ s.mail[h]? = some box ∧
        (((box.length : Int) = s.su.room ∧ r = -1 ∧ e = 7 ∧ s' = { s with passed := s.passed.set t now, seq := s.seq + 1 }) ∨
        ((box.length : Int) ≠ s.su.room ∧ r = i ∧ e = 0 ∧ s' = Ms.rel { s with passed := s.passed.set t now, seq := s.seq + 1 } i f h box (kword a.prio (s.seq + 1) 0))))))))
theorem tone_bd {x : Tk} (h : Tsk.tone x = 0) : 0 ≤ x.prio ∧ x.prio ≤ 254 ∧ 0 ≤ x.every ∧ x.every ≤ 1099511627776 := by
  unfold Tsk.tone at h
  split at h
  · cases h
  · split at h
    · cases h
    · omega
theorem tfirst_all : ∀ {l : List Tk}, Tsk.tfirst l = 0 → ∀ x ∈ l, Tsk.tone x = 0
  | [], _, x, hx => by cases hx
  | y :: l, h, x, hx => by
    unfold Tsk.tfirst at h
    by_cases hy : Tsk.tone y = 0
    · rw [if_pos hy] at h
      rcases List.mem_cons.1 hx with rfl | hx
      · exact hy
      · exact tfirst_all h x hx
    · rw [if_neg hy] at h; exact absurd h hy
theorem tchk_all {l : List Tk} (h : tchk l = 0) : l.length ≤ 32 ∧ ∀ x ∈ l, Tsk.tone x = 0 := by
  unfold Tsk.tchk at h
  split at h
  · cases h
  · exact ⟨by omega, tfirst_all h⟩
section
variable {B0 S : AH} {W : List Nat} {own R : List Own} {ro : List Fct} {Q : Post} {k : AV → AC} {v : AV} {x : Nat} {s : Ms} {m : Mv}
theorem homeM_ok {S : AH} {t : Nat} {cores : Int} (h1 : 1 ≤ cores) (h2 : cores ≤ 64) : wpC EM (.fn (.func 74) [] []) [I (t : Int), I cores] S fun r S' => r = I ((t : Int) % cores) ∧ Grows S S' := by
  refine wpC_fn (b := Tryz.a74) rfl rfl ?_
  unfold Tryz.a74 Tryz.a74x0
  refine wp_lss_f (by omega) ?_
  try(refine zz ?_;(repeat constructor);intro _)
  refine wp_lss_f (by omega) ?_
  try(refine zz ?_;(repeat constructor);intro _)
  refine wp_gtr_f (by omega) ?_
  try(refine zz ?_;(repeat constructor);intro _)
  refine wp_rem (by omega) ?_
  refine wp_ret ⟨rfl, ?_, Grows.refl _⟩
  rw [Int.tmod_eq_emod_of_nonneg (by omega)]; rfl
set_option maxHeartbeats 2000000 in
theorem release_ok {kind now : Int} {t : Nat} (wf : s.Wf) (hbx : m.bx.length = s.mail.length) (hv : Fct.sl m.vt 4 (tks s.T) ∈ ro) (ht : t < s.T.length) (hnow : 0 ≤ now ∧ now ≤ 1099511627776) (hseq : s.seq < 1152921504606846976) (H : Cx B0 W S (mOwn x s m ++ R) ro) :
    wpC EM (.fn (.func 54) [] []) [.ptr x 0, Deal kind t now] S fun u S' => ∃ r e s' m', u = .tup [I r, I e] ∧ RelR s t now r e s' ∧ m'.bx.length = s'.mail.length ∧ m'.vt = m.vt ∧ Cx B0 W S' (mOwn x s' m' ++ R) ro := by
  refine wpC_fn (b := Tryz.a54) rfl rfl ?_
  unfold Tryz.a54 Tryz.a54x17 Tryz.a54x16 Tryz.a54x15 Tryz.a54x14 Tryz.a54x13 Tryz.a54x12 Tryz.a54x11 Tryz.a54x10 Tryz.a54x9 Tryz.a54x8 Tryz.a54x7 Tryz.a54x6 Tryz.a54x5 Tryz.a54x4 Tryz.a54x3 Tryz.a54x2 Tryz.a54x1 Tryz.a54x0
  have hpl := wf.pl
  have htp : t < s.passed.length := by omega
  have hl : s.passed[t]? = some s.passed[t] := List.getElem?_eq_getElem htp
  generalize s.passed[t] = last at hl
  have hlb := wf.pb _ (List.mem_of_getElem? hl)
  have hT : s.T[t]? = some s.T[t] := List.getElem?_eq_getElem ht
  have hTc : (tks s.T)[t]? = some (s.T[t]).cs := tks_get ht
  generalize s.T[t] = a at hT hTc
  have hab := tone_bd ((tchk_all wf.chk).2 a (List.mem_of_getElem? hT))
  refine wp_box H rfl fun b S1 H1 => ?_
  have H1 : Cx B0 W S1 (mOwn x s m ++ R) (.pt b 0 [I kind, I (t : Int), I now] :: ro) := H1
  have hv1 : ∀ {φ : Fct}, Fct.sl m.vt 4 (tks s.T) ∈ φ :: ro := List.mem_cons_of_mem _ hv
  try(refine zz ?_;(repeat constructor);intro _)
  refine wp_ld H1 (o := 1) (cs := [I kind, I (t : Int), I now]) (by repeat (first | exact List.Mem.head _ | apply List.Mem.tail)) rfl ?_
  try(refine zz ?_;(repeat constructor);intro _)
  refine wp_row (j := 7) H1 0 rfl rfl ?_
  refine wp_at (es := 1) H1 1 rfl (by rw [ints_len]; exact htp) fun id off hp => ?_
  refine wp_atL0 H1 1 rfl hp (ints_get? hl) rfl ?_
  have soon : ∀ {S2 : AH}, last ≠ -1 → (now < last ∨ now - last < a.every) → Cx B0 W S2 (mOwn x s m ++ R) ro → (Tag.ret = .ret ∧ ∃ r e s' m', oneOf [I (-1), I 13] = AV.tup [I r, I e] ∧ RelR s t now r e s' ∧ m'.bx.length = s'.mail.length ∧ m'.vt = m.vt ∧ Cx B0 W S2 (mOwn x s' m' ++ R) ro) := fun h1 h2 H => ⟨rfl, -1, 13, s, m, rfl, ⟨last, a, hl, hT, .inl ⟨h1, h2, rfl, rfl, rfl⟩⟩, hbx, rfl, H⟩
  have rest : ∀ {S2 : AH} {ro2 : List Fct}, ¬ (last ≠ -1 ∧ (now < last ∨ now - last < a.every)) → (∀ φ ∈ ro, φ ∈ ro2) → Fct.pt b 0 [I kind, I (t : Int), I now] ∈ ro2 → Cx B0 W S2 (mOwn x s m ++ R) ro2 → wp EM (Tryz.a54x13 ([] ++ ([.ptr x 0, Deal kind t now] ++ [])) (.ptr b 0) (I (t : Int)) (B false)) S2 fun tg vs S' => tg = .ret ∧ ∃ r e s' m', oneOf vs = .tup [I r, I e] ∧ RelR s t now r e s' ∧ m'.bx.length = s'.mail.length ∧ m'.vt = m.vt ∧ Cx B0 W S' (mOwn x s' m' ++ R) ro := by
    clear H1 H hp
    intro S2 ro2 hns hro hb2 H2
    unfold Tryz.a54x13 Tryz.a54x12 Tryz.a54x11 Tryz.a54x10 Tryz.a54x9 Tryz.a54x8 Tryz.a54x7 Tryz.a54x6 Tryz.a54x5 Tryz.a54x4 Tryz.a54x3 Tryz.a54x2 Tryz.a54x1 Tryz.a54x0
    try(refine zz ?_;(repeat constructor);intro _)
    refine wp_row (j := 7) H2 0 rfl rfl ?_
    try(refine zz ?_;(repeat constructor);intro _)
    refine wp_ld H2 (o := 2) (cs := [I kind, I (t : Int), I now]) hb2 rfl ?_
    refine wp_at (es := 1) H2 1 rfl (by rw [ints_len]; exact htp) fun id off hp => ?_
    refine wp_atS0 H2 1 rfl hp (ints_get? hl) rfl rfl (by omega) (by simp) fun S3 H3 => ?_
    have e1 : (ints s.passed).set t ([I last].set 0 (I now)) = ints (s.passed.set t now) := ints_set _ _ _
    rw [e1] at H3
    have H3 : Cx B0 W S3 (mOwn x { s with passed := s.passed.set t now } m ++ R) ro2 := H3
    try(refine zz ?_;(repeat constructor);intro _)
    refine wp_row (j := 10) H3 0 rfl rfl ?_
    refine wp_leno H3 3 rfl ?_
    rw [ints_len]
    refine wp_eql (fun h0 => ?_) (fun h0 => ?_)
    · have : s.free = [] := List.eq_nil_of_length_eq_zero (by have : (s.free.length : Int) = 0 := h0; omega)
      try(refine zz ?_;(repeat constructor);intro _)
      exact wp_ret ⟨rfl, -1, 7, _, m, rfl, ⟨last, a, hl, hT, .inr ⟨hns, .inl ⟨this, rfl, rfl, rfl⟩⟩⟩, hbx, rfl, H3.dropRo hro⟩
    obtain ⟨i, f, hf⟩ : ∃ i f, s.free = i :: f := by
      cases h : s.free with
      | nil => exact absurd (by show (s.free.length : Int) = 0; rw [h]; rfl) h0
      | cons i f => exact ⟨i, f, rfl⟩
    try(refine zz ?_;(repeat constructor);intro _)
    refine wp_row (j := 8) H3 0 rfl rfl ?_
    refine wp_add64 (by have := wf.sq; show _ ≤ s.seq + 1; omega) (by show s.seq + 1 ≤ _; omega) ?_
    try(refine zz ?_;(repeat constructor);intro _)
    refine wp_set1 (j := 8) H3 0 rfl (by simp [Ms.row, Su.cs]) rfl rfl fun S4 H4 => ?_
    have H4 : Cx B0 W S4 (mOwn x { s with passed := s.passed.set t now, seq := s.seq + 1 } m ++ R) ro2 := H4
    try(refine zz ?_;(repeat constructor);intro _)
    refine wp_row (j := 6) H4 0 rfl rfl ?_
    refine wp_saddr (i := t) H4 (hro _ hv) hTc fun p o H5 => ?_
    try(refine zz ?_;(repeat constructor);intro _)
    refine wp_load1 (j := 1) H5 (cs := a.cs) (by repeat (first | exact List.Mem.head _ | apply List.Mem.tail)) rfl ?_
    try(refine zz ?_;(repeat constructor);intro _)
    refine wp_row (j := 8) H5 0 rfl rfl ?_
    refine wp_op (v := .agg [I a.prio, I (s.seq + 1), I 0]) rfl ?_
    refine wp_callV H5 putKey_ok fun S6 H6 => ?_
    have H6 := H6.tl
    unfold putk
    by_cases hk : 1099511627775 < s.seq + 1
    · rw [if_neg (by unfold kok; omega)]
      try(refine zz ?_;(repeat constructor);intro _)
      refine wp_neq_t (by omega) ?_
      try(refine zz ?_;(repeat constructor);intro _)
      exact wp_ret ⟨rfl, -1, 12, _, m, rfl, ⟨last, a, hl, hT, .inr ⟨hns, .inr ⟨i, f, hf, .inl ⟨hk, rfl, rfl, rfl⟩⟩⟩⟩, hbx, rfl, H6.dropRo hro⟩
    rw [if_pos (by have := wf.sq; unfold kok; omega)]
    try(refine zz ?_;(repeat constructor);intro _)
    refine wp_neq_f rfl ?_
    try(refine zz ?_;(repeat constructor);intro _)
    refine wp_row (j := 11) H6 0 rfl rfl ?_
    try(refine zz ?_;(repeat constructor);intro _)
    refine wp_row (j := 0) H6 0 rfl rfl ?_
    have hc := wf.c64
    refine wp_callV H6 (homeM_ok (cores := s.su.cores) (by omega) (by omega)) fun S7 H7 => ?_
    have hvm : slOk S7 m.vm 1 (ptrs m.bx) := ownSl_ok (H7.oh _ (List.mem_of_getElem? (i := 4) rfl))
    refine wp_cko (o := 11) H7 0 rfl rfl (beq_sl hvm) ?_
    obtain ⟨h, hh⟩ : ∃ h : Nat, (h : Int) = (t : Int) % s.su.cores := ⟨((t : Int) % s.su.cores).toNat, by have := Int.emod_nonneg (t : Int) (show s.su.cores ≠ 0 by omega); omega⟩
    have hhl : h < s.mail.length := by
      have := Int.emod_lt_of_pos (t : Int) (show 0 < s.su.cores by omega)
      have := wf.ml
      omega
    rw [← hh]
    have b1 : m.bx[h]? = some (m.bx[h]'(by omega)) := List.getElem?_eq_getElem _
    generalize m.bx[h]'(by omega) = bo at b1
    have b2 : s.mail[h]? = some s.mail[h] := List.getElem?_eq_getElem hhl
    generalize s.mail[h] = bl at b2
    have hml := wf.mb _ (List.mem_of_getElem? b2)
    have hroom : s.su.room ≤ 16 := by have := wf.fine; unfold Su.fine at this; omega
    have H7 : Cx B0 W S7 (mOwnG x { s with passed := s.passed.set t now, seq := s.seq + 1 } m m.bx ++ R) ro2 := H7
    refine wp_at (es := 1) H7 4 rfl (by rw [ptrs_len]; omega) fun id off hp => ?_
    try(refine zz ?_;(repeat constructor);intro _)
    refine wp_atL0 H7 4 rfl hp (ptrs_get? b1) rfl ?_
    refine wp_leno H7 (h + 7) (box_get b1 b2) ?_
    rw [ints_len]
    try(refine zz ?_;(repeat constructor);intro _)
    refine wp_row (j := 4) H7 0 rfl rfl ?_
    refine wp_eql (fun hfull => ?_) (fun hfull => ?_)
    · try(refine zz ?_;(repeat constructor);intro _)
      exact wp_ret ⟨rfl, -1, 7, _, m, rfl, ⟨last, a, hl, hT, .inr ⟨hns, .inr ⟨i, f, hf, .inr ⟨by omega, h, bl, hh, b2, .inl ⟨hfull, rfl, rfl, rfl⟩⟩⟩⟩⟩, hbx, rfl, H7.dropRo hro⟩
    have hib := wf.fb i (by rw [hf]; exact List.mem_cons_self ..)
    obtain ⟨n, rfl⟩ : ∃ n : Nat, i = (n : Int) := ⟨i.toNat, by omega⟩
    have hn : n < s.jobs.length := by omega
    obtain ⟨y, hy, hyj⟩ := wf.job hn
    try(refine zz ?_;(repeat constructor);intro _)
    refine wp_row (j := 10) H7 0 rfl rfl ?_
    have hm3 : (mOwnG x { s with passed := s.passed.set t now, seq := s.seq + 1 } m m.bx ++ R)[3]? = some (.sl m.vf 1 (ints ((n : Int) :: f))) := by rw [← hf]; rfl
    refine wp_at (es := 1) (i := 0) H7 3 hm3 (by simp [ints]) fun id3 off3 hp3 => ?_
    refine wp_atL0 H7 3 hm3 hp3 (x := [I (n : Int)]) rfl rfl ?_
    try(refine zz ?_;(repeat constructor);intro _)
    refine wp_row (j := 10) H7 0 rfl rfl ?_
    refine wp_call (wpC_mono (del0_ok H7 3 hm3) fun u S8 H8 => ?_)
    have H8 : Cx B0 W S8 ((mOwnG x { s with passed := s.passed.set t now, seq := s.seq + 1 } m m.bx ++ R).set 3 (.sl u 1 (ints f))) ro2 := H8
    obtain ⟨ho1, ho2⟩ := slOk_odd1 (ownSl_ok (H8.oh (.sl u 1 (ints f)) (List.mem_of_getElem? (i := 3) rfl)))
    try(refine zz ?_;(repeat constructor);intro _)
    refine wp_set1 (j := 10) H8 0 rfl (by simp [Ms.row, Su.cs]) ho1 ho2 fun S9 H9 => ?_
    have H9 : Cx B0 W S9 (mOwnG x { s with passed := s.passed.set t now, seq := s.seq + 1, free := f } { m with vf := u } m.bx ++ R) ro2 := H9
    try(refine zz ?_;(repeat constructor);intro _)
    refine wp_row (j := 9) H9 0 rfl rfl ?_
    refine wp_op (v := .agg (Lv.cs ⟨n, 2, 0, kword a.prio (s.seq + 1) 0⟩)) rfl ?_
    refine wp_at (es := 4) (i := n) H9 2 rfl (by rw [lvs_len]; exact hn) fun id4 off4 hp4 => ?_
    refine wp_atSn H9 2 rfl hp4 (lvs_get? hy) rfl rfl fun S10 H10 => ?_
    have e2 : (lvs s.jobs).set n (Lv.cs ⟨n, 2, 0, kword a.prio (s.seq + 1) 0⟩) = lvs (s.jobs.set n ⟨n, 2, 0, kword a.prio (s.seq + 1) 0⟩) := lvs_set s.jobs n ⟨n, 2, 0, kword a.prio (s.seq + 1) 0⟩
    have H10 : Cx B0 W S10 ((mOwnG x { s with passed := s.passed.set t now, seq := s.seq + 1, free := f } { m with vf := u } m.bx ++ R).set 2 (.sl m.vj 4 ((lvs s.jobs).set n (Lv.cs ⟨n, 2, 0, kword a.prio (s.seq + 1) 0⟩)))) ro2 := H10
    rw [e2] at H10
    have H10 : Cx B0 W S10 (mOwnG x { s with passed := s.passed.set t now, seq := s.seq + 1, free := f, jobs := s.jobs.set n ⟨n, 2, 0, kword a.prio (s.seq + 1) 0⟩ } { m with vf := u } m.bx ++ R) ro2 := H10
    try(refine zz ?_;(repeat constructor);intro _)
    refine wp_atL0 H10 4 rfl hp (ptrs_get? b1) rfl ?_
    refine wp_push (x := I (n : Int)) H10 (h + 7) (box_get (s := { s with passed := s.passed.set t now, seq := s.seq + 1, free := f, jobs := s.jobs.set n ⟨n, 2, 0, kword a.prio (s.seq + 1) 0⟩ }) b1 b2) rfl rfl rfl (by rw [ints_len]; unfold maxBytes; omega) (by rw [ints_len]; unfold maxLenN; omega) fun v1 S11 H11 => ?_
    have e3 : ints bl ++ [(I (n : Int)).cells] = ints (bl ++ [(n : Int)]) := by unfold ints; rw [List.map_append]; rfl
    rw [e3] at H11
    have H11 : Cx B0 W S11 ((mOwnG x { s with passed := s.passed.set t now, seq := s.seq + 1, free := f, jobs := s.jobs.set n ⟨n, 2, 0, kword a.prio (s.seq + 1) 0⟩ } { m with vf := u } m.bx ++ R).set (h + 7) (boxO v1 (bl ++ [(n : Int)]))) ro2 := H11
    rw [box_set (s := { s with passed := s.passed.set t now, seq := s.seq + 1, free := f, jobs := s.jobs.set n ⟨n, 2, 0, kword a.prio (s.seq + 1) 0⟩ }) b1 b2] at H11
    have hbz : (m.bx.set h v1)[h]? = some v1 := by rw [List.getElem?_set]; simp; omega
    have hmz : (s.mail.set h (bl ++ [(n : Int)]))[h]? = some (bl ++ [(n : Int)]) := by rw [List.getElem?_set]; simp [hhl]
    obtain ⟨ho1, ho2⟩ := slOk_odd1 (ownSl_ok (H11.oh _ (List.mem_of_getElem? (box_get (s := { s with passed := s.passed.set t now, seq := s.seq + 1, free := f, jobs := s.jobs.set n ⟨n, 2, 0, kword a.prio (s.seq + 1) 0⟩, mail := s.mail.set h (bl ++ [(n : Int)]) }) hbz hmz))))
    try(refine zz ?_;(repeat constructor);intro _)
    refine wp_atS0 H11 4 rfl hp (ptrs_get? b1) ho1 ho2 (by omega) (by simp) fun S12 H12 => ?_
    have e4 : (ptrs m.bx).set h ([bo].set 0 v1) = ptrs (m.bx.set h v1) := ptrs_set _ _ _
    have H12 : Cx B0 W S12 ((mOwnG x { s with passed := s.passed.set t now, seq := s.seq + 1, free := f, jobs := s.jobs.set n ⟨n, 2, 0, kword a.prio (s.seq + 1) 0⟩, mail := s.mail.set h (bl ++ [(n : Int)]) } { m with vf := u } (m.bx.set h v1) ++ R).set 4 (.sl m.vm 1 ((ptrs m.bx).set h ([bo].set 0 v1)))) ro2 := H12
    rw [e4] at H12
    refine wp_ret ⟨rfl, n, 0, _, { m with vf := u, bx := m.bx.set h v1 }, rfl, ⟨last, a, hl, hT, .inr ⟨hns, .inr ⟨n, f, hf, .inr ⟨by omega, h, bl, hh, b2, .inr ⟨hfull, rfl, rfl, rfl⟩⟩⟩⟩⟩, ?_, rfl, ?_⟩
    · show (m.bx.set h v1).length = (s.mail.set h _).length
      rw [List.length_set, List.length_set]; exact hbx
    · have e5 : Ms.rel { s with passed := s.passed.set t now, seq := s.seq + 1 } (n : Int) f h bl (kword a.prio (s.seq + 1) 0) = { s with passed := s.passed.set t now, seq := s.seq + 1, free := f, jobs := s.jobs.set n ⟨n, 2, 0, kword a.prio (s.seq + 1) 0⟩, mail := s.mail.set h (bl ++ [(n : Int)]) } := rfl
      rw [e5]
      exact H12.dropRo hro
  unfold Tryz.a54x13 Tryz.a54x12 Tryz.a54x11 Tryz.a54x10 Tryz.a54x9 Tryz.a54x8 Tryz.a54x7 Tryz.a54x6 Tryz.a54x5 Tryz.a54x4 Tryz.a54x3 Tryz.a54x2 Tryz.a54x1 Tryz.a54x0 at rest
  refine wp_neq (fun hne => ?_) (fun he => ?_)
  · try(refine zz ?_;(repeat constructor);intro _)
    refine wp_ld H1 (o := 2) (cs := [I kind, I (t : Int), I now]) (by repeat (first | exact List.Mem.head _ | apply List.Mem.tail)) rfl ?_
    try(refine zz ?_;(repeat constructor);intro _)
    refine wp_lss (fun hlt => ?_) (fun hge => ?_)
    · try(refine zz ?_;(repeat constructor);intro _)
      exact wp_ret (soon hne (.inl hlt) H1.tl)
    · try(refine zz ?_;(repeat constructor);intro _)
      refine wp_ld H1 (o := 2) (cs := [I kind, I (t : Int), I now]) (by repeat (first | exact List.Mem.head _ | apply List.Mem.tail)) rfl ?_
      try(refine zz ?_;(repeat constructor);intro _)
      refine wp_sub64 (by omega) (by omega) ?_
      try(refine zz ?_;(repeat constructor);intro _)
      refine wp_row (j := 6) H1 0 rfl rfl ?_
      try(refine zz ?_;(repeat constructor);intro _)
      refine wp_saddr (i := t) H1 hv1 hTc fun p o H2 => ?_
      try(refine zz ?_;(repeat constructor);intro _)
      refine wp_load1 (j := 2) H2 (cs := a.cs) (by repeat (first | exact List.Mem.head _ | apply List.Mem.tail)) rfl ?_
      try(refine zz ?_;(repeat constructor);intro _)
      refine wp_lss (fun hlt => ?_) (fun hge2 => ?_)
      · try(refine zz ?_;(repeat constructor);intro _)
        exact wp_ret (soon hne (.inr hlt) H2.tl.tl)
      · have := rest (fun h => by omega) (fun φ h => List.mem_cons_of_mem _ (List.mem_cons_of_mem _ h)) (by repeat (first | exact List.Mem.head _ | apply List.Mem.tail)) H2
        try(refine zz ?_;(repeat constructor);intro _)
        exact this
  · subst he
    have := rest (fun h => h.1 rfl) (fun φ h => List.mem_cons_of_mem _ h) (by repeat (first | exact List.Mem.head _ | apply List.Mem.tail)) H1
    try(refine zz ?_;(repeat constructor);intro _)
    exact this
end
end Go.Abs
namespace Go.Abs
open Go.Proofs
set_option maxRecDepth 100000
set_option linter.unusedVariables false
open Tsk (Tk tks tchk tks_len tks_get)
/-! ### what an operation leaves goes through, too -/
theorem Bal.same {s s' : Ms} (b : Bal s s') : s'.jobs = s.jobs ∧ s'.su = s.su ∧ s'.T = s.T ∧ s'.seq = s.seq ∧ s'.mail = s.mail ∧ s'.runs = s.runs ∧ s'.free = s.free ∧ s'.passed = s.passed := by
  rcases b with ⟨_, rfl⟩ | ⟨_, _, _, _, _, _, rfl⟩
  · simp
  · split <;> simp
def Told (s s' : Ms) (r e : Int) : Prop := s'.Wf ∧ s'.jobs.length = s.jobs.length ∧ s'.su = s.su ∧ s'.T = s.T ∧ s'.seq ≤ s.seq + 1 ∧ (e = 0 → r ≠ -1 → 0 ≤ r ∧ r < s.jobs.length)
theorem Told.self {s : Ms} (h : s.Wf) {e : Int} : Told s s (-1) e := ⟨h, rfl, rfl, rfl, by omega, fun _ h => absurd rfl h⟩
theorem PickR.told {s s' : Ms} {c : Nat} {r e : Int} (h : s.Wf) (p : PickR s c r e s') : Told s s' r e := by
  rcases p with ⟨i, h1, h2, rfl, rfl, rfl⟩ | ⟨h1, h2, rfl, rfl, rfl⟩ | ⟨z, h1, hz, rfl, rfl, hb⟩
  · exact .self h
  · exact .self h
  · obtain ⟨q1, q2, q3, q4, _⟩ := hb.same
    obtain ⟨n, h3, h4, _⟩ := h.least hz
    have hn := (List.getElem?_eq_some_iff.1 h4).1
    refine ⟨hb.wf (h.claim hz), ?_, q2, q3, ?_, fun _ _ => by omega⟩
    · rw [q1]; show (s.jobs.set _ _).length = _; rw [List.length_set]
    · rw [q4]; show s.seq ≤ _; omega
theorem TakeR.told {s s' : Ms} {c : Nat} {r e : Int} (h : s.Wf) (p : TakeR s c r e s') : Told s s' r e := by
  rcases p with ⟨h1, rfl, rfl, rfl⟩ | ⟨i, l, y, h1, h2, rfl, rfl, hb⟩
  · exact .self h
  · obtain ⟨q1, q2, q3, q4, _⟩ := hb.same
    have hm := (h.mb _ (List.mem_of_getElem? h1)).2 r (List.mem_cons_self ..)
    refine ⟨hb.wf (h.takes h1 h2), ?_, q2, q3, ?_, fun _ _ => hm⟩
    · rw [q1]; show (s.jobs.set _ _).length = _; rw [List.length_set]
    · rw [q4]; show s.seq ≤ _; omega
theorem EndR.told {s s' : Ms} {c : Nat} {r e : Int} (h : s.Wf) (hf : ∀ i, s.runs[c]? = some i → i ≠ -1 → s.free.length < s.jobs.length) (p : EndR s c r e s') : Told s s' r e := by
  rcases p with ⟨h1, rfl, rfl, rfl⟩ | ⟨i, y, h1, h2, h3, rfl, rfl, hb⟩
  · exact .self h
  · obtain ⟨q1, q2, q3, q4, _⟩ := hb.same
    obtain ⟨n, rfl, y', hy', hyj⟩ := h.run h1 h2
    have hn := (List.getElem?_eq_some_iff.1 hy').1
    rw [Int.toNat_natCast, hy'] at h3
    cases h3
    refine ⟨hb.wf (h.ends hy' hyj (hf _ h1 h2)), ?_, q2, q3, ?_, fun _ _ => by omega⟩
    · rw [q1]; show (s.jobs.set _ _).length = _; rw [List.length_set]
    · rw [q4]; show s.seq ≤ _; omega
theorem ThenPick.told {s s' : Ms} {c : Nat} {r e : Int} (h : s.Wf) (p : ThenPick s c r e s') : Told s s' r e := by
  obtain ⟨r0, e0, hp, he⟩ := p
  obtain ⟨h1, h2, h3, h4, h5, h6⟩ := hp.told h
  split at he
  · obtain ⟨rfl, rfl⟩ := he
    exact ⟨h1, h2, h3, h4, h5, fun _ h => absurd rfl h⟩
  · obtain ⟨rfl, rfl⟩ := he
    exact ⟨h1, h2, h3, h4, h5, h6⟩
theorem ServeR.told {s s' : Ms} {c : Nat} {r e : Int} (h : s.Wf) (p : ServeR s c r e s') : Told s s' r e := by
  rcases p with ⟨h1, rfl, rfl, rfl⟩ | ⟨h1, h2, hp⟩ | ⟨i, y, h1, h2, h3, h4, ⟨h5, rfl, rfl, rfl⟩ | ⟨h5, hp⟩⟩
  · exact .self h
  · exact hp.told (s := s.drops c) h.setFlag
  · exact ⟨h.setFlag, rfl, rfl, rfl, by show s.seq ≤ _; omega, fun _ h => absurd rfl h⟩
  · obtain ⟨n, rfl, y', hy', hyj⟩ := h.run h2 h3
    rw [Int.toNat_natCast, hy'] at h4
    cases h4
    have hl : (s.gives c y).jobs.length = s.jobs.length := by show (s.jobs.set _ _).length = _; rw [List.length_set]
    obtain ⟨h1, h2, h3, h4, h5, h6⟩ := hp.told (h.gives hy' hyj h5)
    exact ⟨h1, h2.trans hl, h3, h4, h5, fun h h' => by rw [← hl]; exact h6 h h'⟩
theorem RelR.told {s s' : Ms} {t : Nat} {now r e : Int} (h : s.Wf) (hnow : 0 ≤ now ∧ now ≤ 1099511627776) (hseq : s.seq < 1152921504606846976) (p : RelR s t now r e s') : Told s s' r e := by
  have hq := h.sq
  obtain ⟨last, a, h1, h2, p⟩ := p
  have hab := tone_bd ((tchk_all h.chk).2 a (List.mem_of_getElem? h2))
  have wp := h.setPassed (t := t) (p := now) ⟨by omega, hnow.2⟩
  rcases p with ⟨_, _, rfl, rfl, rfl⟩ | ⟨_, ⟨_, rfl, rfl, rfl⟩ | ⟨i, f, hf, ⟨_, rfl, rfl, rfl⟩ | ⟨h4, hh, box, h5, h6, ⟨_, rfl, rfl, rfl⟩ | ⟨h7, rfl, rfl, rfl⟩⟩⟩⟩
  · exact .self h
  · exact ⟨wp, rfl, rfl, rfl, by show s.seq ≤ _; omega, fun _ h => absurd rfl h⟩
  · exact ⟨wp.setSeq (q := s.seq + 1) (by omega), rfl, rfl, rfl, by show s.seq + 1 ≤ _; omega, fun _ h => absurd rfl h⟩
  · exact ⟨wp.setSeq (q := s.seq + 1) (by omega), rfl, rfl, rfl, by show s.seq + 1 ≤ _; omega, fun _ h => absurd rfl h⟩
  · have hib := h.fb r (by rw [hf]; exact List.mem_cons_self ..)
    have hmb := h.mb _ (List.mem_of_getElem? h6)
    have hfl := h.fl
    rw [hf, List.length_cons] at hfl
    have w1 := (wp.setSeq (q := s.seq + 1) (by omega)).setFree (l := f) (by show f.length ≤ s.jobs.length; omega) (fun i hi => h.fb i (by rw [hf]; exact List.mem_cons_of_mem _ hi))
    have w2 := w1.setMail (c := hh) (l := box ++ [r]) ⟨by rw [List.length_append, List.length_singleton]; have := hmb.1; show ((box.length + 1 : Nat) : Int) ≤ s.su.room; omega, fun i hi => by
      show 0 ≤ i ∧ i < (s.jobs.length : Int)
      rcases List.mem_append.1 hi with hi | hi
      · exact hmb.2 i hi
      · rw [List.mem_singleton.1 hi]; exact hib⟩
    have w3 := w2.setJob (i := r.toNat) (y := ⟨r, 2, 0, kword a.prio (s.seq + 1) 0⟩) (by show r = (r.toNat : Int); omega) (by show 0 ≤ kword a.prio (s.seq + 1) 0 ∧ kword a.prio (s.seq + 1) 0 < 18374686479671623680; unfold kword; omega)
    refine ⟨w3, by show (s.jobs.set _ _).length = _; rw [List.length_set], rfl, rfl, by show s.seq + 1 ≤ _; omega, fun _ _ => hib⟩
/-! ### an operation -/
def OpR (s : Ms) (kind at' now r e : Int) (s' : Ms) : Prop :=
  (kind = 1 ∧ RelR s at'.toNat now r e s') ∨ (kind = 2 ∧ TakeR s at'.toNat r e s') ∨ (kind = 3 ∧ PickR s at'.toNat r e s') ∨ (kind = 4 ∧ ServeR s at'.toNat r e s') ∨ (kind = 5 ∧ EndR s at'.toNat r e s')
def most (s : Ms) (kind : Int) : Int := if kind = 1 then s.T.length else s.su.cores
def mayAt (s : Ms) (kind at' now : Int) : Prop := (kind = 1 → 0 ≤ now ∧ now ≤ 1099511627776) ∧ 0 ≤ at' ∧ at' < most s kind
def DoR (s : Ms) (kind at' now r e : Int) (s' : Ms) : Prop :=
  (¬ (1 ≤ kind ∧ kind ≤ 5) ∧ r = -1 ∧ e = 2 ∧ s' = s) ∨ ((1 ≤ kind ∧ kind ≤ 5) ∧ ¬ mayAt s kind at' now ∧ r = -1 ∧ e = 3 ∧ s' = s) ∨ ((1 ≤ kind ∧ kind ≤ 5) ∧ mayAt s kind at' now ∧ OpR s kind at' now r e s')
def keyAt (s : Ms) (r : Int) : Int := match s.jobs[r.toNat]? with
  | some y => y.key
  | none => 0
def told (s : Ms) (r e : Int) : AV := if e = 0 ∧ r ≠ -1 then .agg [I r, U (keyAt s r)] else .agg [I 0, U 0]
section
variable {B0 S : AH} {W : List Nat} {own R : List Own} {ro : List Fct} {Q : Post} {k : AV → AC} {v : AV} {x : Nat} {s : Ms} {m : Mv}
def deedM : List (Int × AV) := [(1, .fn (.func 54) [] []), (2, .fn (.func 55) [] []), (3, .fn (.func 56) [] []), (4, .fn (.func 57) [] []), (5, .fn (.func 58) [] [])]
theorem deeds_ok (H : Cx B0 W S own ro) : wpC EM (.fn (.func 31) [] []) [] S fun r S' => ∃ p, r = .map p ∧ Cx B0 W S' own (.ob p (.map (ment deedM)) :: ro) := by
  refine wpC_fn (b := Tryz.a31) rfl rfl ?_
  unfold Tryz.a31
  refine wp_mkmap H fun p S1 H => ?_
  have H : Cx B0 W S1 (.obj p (.map (ment [])) :: own) ro := H
  refine wp_mapset H 0 undI rfl fun S2 H => ?_
  refine wp_mapset H 0 undI rfl fun S3 H => ?_
  refine wp_mapset H 0 undI rfl fun S4 H => ?_
  refine wp_mapset H 0 undI rfl fun S5 H => ?_
  refine wp_mapset H 0 undI rfl fun S6 H => ?_
  have H : Cx B0 W S6 (.obj p (.map (ment deedM)) :: own) ro := H
  exact wp_ret ⟨rfl, p, rfl, H.freezeOb (i := 0) rfl⟩
theorem clearTold_ok {t e : Nat} {a b c : AV} (H : Cx B0 W S (.obj e (.row [c]) :: .obj t (.row [a, b]) :: own) ro) {n : Int} (hc : c = I n) :
    wpC EM (.fn (.func 30) [] [.ptr e 0, .ptr t 0]) [] S fun _ S' => Cx B0 W S' (.obj e (.row [c]) :: .obj t (.row (if n = 0 then [a, b] else [I 0, U 0])) :: own) ro := by
  subst hc
  refine wpC_fn (b := Tryz.a30) rfl rfl ?_
  unfold Tryz.a30 Tryz.a30x0
  refine wp_row (j := 0) H 0 rfl rfl ?_
  refine wp_neq (fun hne => ?_) (fun he => ?_)
  · refine wp_bind ?_
    try(refine zz ?_;(repeat constructor);intro _)
    refine wp_op (v := .agg [I 0, U 0]) rfl ?_
    refine wp_store H 1 rfl rfl rfl (Nat.le_of_ble_eq_true rfl) fun S2 H => ?_
    refine wp_ret ?_
    show wp EM _ _ _
    refine wp_ret ⟨rfl, ?_⟩
    rw [if_neg hne]; exact H
  · refine wp_bind ?_
    try(refine zz ?_;(repeat constructor);intro _)
    refine wp_ret ?_
    show wp EM _ _ _
    refine wp_ret ⟨rfl, ?_⟩
    rw [if_pos he]; exact H
end
end Go.Abs
namespace Go.Abs
open Go.Proofs
set_option maxRecDepth 100000
set_option linter.unusedVariables false
open Tsk (Tk tks tchk tks_len tks_get)
section
variable {B0 S : AH} {W : List Nat} {own R : List Own} {ro : List Fct} {Q : Post} {k : AV → AC} {v : AV} {x : Nat} {s : Ms} {m : Mv}
theorem bal_mail {s s' : Ms} (b : Bal s s') : s'.mail = s.mail := b.same.2.2.2.2.1
theorem PickR.mail {s s' : Ms} {c : Nat} {r e : Int} (p : PickR s c r e s') : s'.mail = s.mail := by
  rcases p with ⟨i, h1, h2, rfl, rfl, rfl⟩ | ⟨h1, h2, rfl, rfl, rfl⟩ | ⟨z, h1, hz, rfl, rfl, hb⟩
  · rfl
  · rfl
  · have := bal_mail hb; exact this
theorem ThenPick.mail {s s' : Ms} {c : Nat} {r e : Int} (p : ThenPick s c r e s') : s'.mail = s.mail := by
  obtain ⟨_, _, hp, _⟩ := p
  exact hp.mail
theorem ServeR.mail {s s' : Ms} {c : Nat} {r e : Int} (p : ServeR s c r e s') : s'.mail = s.mail := by
  rcases p with ⟨h1, rfl, rfl, rfl⟩ | ⟨h1, h2, hp⟩ | ⟨i, y, h1, h2, h3, h4, ⟨h5, rfl, rfl, rfl⟩ | ⟨h5, hp⟩⟩
  · rfl
  · exact hp.mail
  · rfl
  · exact hp.mail
theorem EndR.mail {s s' : Ms} {c : Nat} {r e : Int} (p : EndR s c r e s') : s'.mail = s.mail := by
  rcases p with ⟨h1, rfl, rfl, rfl⟩ | ⟨i, y, h1, h2, h3, rfl, rfl, hb⟩
  · rfl
  · have := bal_mail hb; exact this
structure Fit (s : Ms) (m : Mv) (ro : List Fct) : Prop where
  wf : s.Wf
  bx : m.bx.length = s.mail.length
  jl : s.jobs.length ≤ 64
  vt : Fct.sl m.vt 4 (tks s.T) ∈ ro
  sq : s.seq < 1152921504606846976
  fr : ∀ (c : Nat) (i : Int), s.runs[c]? = some i → i ≠ -1 → s.free.length < s.jobs.length
theorem deed_ok {kind at' now : Int} (h : Fit s m ro) (hk : 1 ≤ kind ∧ kind ≤ 5) (hf : mayAt s kind at' now) (H : Cx B0 W S (mOwn x s m ++ R) ro) :
    wpC EM ((mget deedM kind).getD Nf) [.ptr x 0, Deal kind at' now] S fun u S' => ∃ r e s' m', u = .tup [I r, I e] ∧ OpR s kind at' now r e s' ∧ m'.bx.length = s'.mail.length ∧ m'.vt = m.vt ∧ Cx B0 W S' (mOwn x s' m' ++ R) ro := by
  obtain ⟨hf1, hf2, hf3⟩ := hf
  obtain ⟨a, rfl⟩ : ∃ a : Nat, at' = (a : Int) := ⟨at'.toNat, by omega⟩
  unfold most at hf3
  have hcase : kind = 1 ∨ kind = 2 ∨ kind = 3 ∨ kind = 4 ∨ kind = 5 := by omega
  rcases hcase with rfl | rfl | rfl | rfl | rfl
  · rw [if_pos rfl] at hf3
    refine wpC_mono (release_ok h.wf h.bx h.vt (t := a) (by omega) (hf1 rfl) h.sq H) fun u S' q => ?_
    obtain ⟨r, e, s', m', h1, h2, h3⟩ := q
    exact ⟨r, e, s', m', h1, .inl ⟨rfl, h2⟩, h3⟩
  · refine wpC_mono (take_ok h.wf h.bx h.jl (c := a) (by rw [if_neg (by omega)] at hf3; exact hf3) H) fun u S' q => ?_
    obtain ⟨r, e, s', m', h1, h2, h3⟩ := q
    exact ⟨r, e, s', m', h1, .inr (.inl ⟨rfl, h2⟩), h3⟩
  · refine wpC_mono (pick_ok' h.wf h.jl (c := a) (by rw [if_neg (by omega)] at hf3; exact hf3) H) fun u S' q => ?_
    obtain ⟨r, e, s', h1, h2, h3⟩ := q
    exact ⟨r, e, s', m, h1, .inr (.inr (.inl ⟨rfl, h2⟩)), by rw [h.bx, h2.mail], rfl, h3⟩
  · refine wpC_mono (serve_ok h.wf h.jl (c := a) (by rw [if_neg (by omega)] at hf3; exact hf3) H) fun u S' q => ?_
    obtain ⟨r, e, s', h1, h2, h3⟩ := q
    exact ⟨r, e, s', m, h1, .inr (.inr (.inr (.inl ⟨rfl, h2⟩))), by rw [h.bx, h2.mail], rfl, h3⟩
  · refine wpC_mono (complete_ok h.wf h.jl (c := a) (by rw [if_neg (by omega)] at hf3; exact hf3) (h.fr a) H) fun u S' q => ?_
    obtain ⟨r, e, s', m', h1, h2, h3, h4, h5⟩ := q
    exact ⟨r, e, s', m', h1, .inr (.inr (.inr (.inr ⟨rfl, h2⟩))), by rw [h3, h.bx, h2.mail], h4, h5⟩
theorem OpR.told {s s' : Ms} {kind at' now r e : Int} {m : Mv} {ro : List Fct} (h : Fit s m ro) (hf : mayAt s kind at' now) (p : OpR s kind at' now r e s') : Told s s' r e := by
  rcases p with ⟨hk, p⟩ | ⟨hk, p⟩ | ⟨hk, p⟩ | ⟨hk, p⟩ | ⟨hk, p⟩
  · exact p.told h.wf (hf.1 hk) h.sq
  · exact p.told h.wf
  · exact p.told h.wf
  · exact p.told h.wf
  · exact p.told h.wf (h.fr _)
theorem DoR.told {s s' : Ms} {kind at' now r e : Int} {m : Mv} {ro : List Fct} (h : Fit s m ro) (p : DoR s kind at' now r e s') : Told s s' r e := by
  rcases p with ⟨_, rfl, rfl, rfl⟩ | ⟨_, _, rfl, rfl, rfl⟩ | ⟨_, hf, p⟩
  · exact .self h.wf
  · exact .self h.wf
  · exact p.told h hf
set_option maxHeartbeats 2000000 in
theorem do_ok {kind at' now : Int} (h : Fit s m ro) (H : Cx B0 W S (mOwn x s m ++ R) ro) :
    wpC EM (.fn (.func 12) [] []) [.ptr x 0, Deal kind at' now] S fun u S' => ∃ r e s' m', u = .tup [told s' r e, I e] ∧ DoR s kind at' now r e s' ∧ m'.bx.length = s'.mail.length ∧ m'.vt = m.vt ∧ Cx B0 W S' (mOwn x s' m' ++ R) ro := by
  refine wpC_fn (b := Tryz.a12) rfl rfl ?_
  unfold Tryz.a12 Tryz.a12x15 Tryz.a12x14 Tryz.a12x13 Tryz.a12x12 Tryz.a12x11 Tryz.a12x10 Tryz.a12x9 Tryz.a12x8 Tryz.a12x7 Tryz.a12x6 Tryz.a12x5 Tryz.a12x4 Tryz.a12x3 Tryz.a12x2 Tryz.a12x1 Tryz.a12x0
  refine wp_box H rfl fun b S1 H => ?_
  have H : Cx B0 W S1 (mOwn x s m ++ R) (.pt b 0 [I kind, I at', I now] :: ro) := H
  refine wp_alloc H fun t S2 H => ?_
  refine wp_alloc H fun er S3 H => ?_
  refine wp_fin ?_
  have fin : ∀ {S4 : AH} {ro2 : List Fct} {r e : Int} {s' : Ms} {m' : Mv}, (∀ φ ∈ ro, φ ∈ ro2) → DoR s kind at' now r e s' → m'.bx.length = s'.mail.length → m'.vt = m.vt → Cx B0 W S4 (.obj er (.row [I e]) :: .obj t (.row (if e = 0 ∧ r ≠ -1 then [I r, U (keyAt s' r)] else [I 0, U 0])) :: (mOwn x s' m' ++ R)) ro2 →
      wp EM (Tryz.a12x15 (.ptr t 0) (.ptr er 0) [.ptr t 0, .ptr er 0]) S4 fun tg vs S' => tg = .ret ∧ ∃ r e s' m', oneOf vs = .tup [told s' r e, I e] ∧ DoR s kind at' now r e s' ∧ m'.bx.length = s'.mail.length ∧ m'.vt = m.vt ∧ Cx B0 W S' (mOwn x s' m' ++ R) ro := by
    intro S4 ro2 r e s' m' hro hd h1 h2 H
    unfold Tryz.a12x15
    have ht : ∃ a b, (if e = 0 ∧ r ≠ -1 then [I r, U (keyAt s' r)] else [I 0, U 0]) = [a, b] ∧ odd a = false ∧ odd b = false := by split <;> exact ⟨_, _, rfl, rfl, rfl⟩
    obtain ⟨a, b, hab, _, _⟩ := ht
    rw [hab] at H
    refine wp_call (wpC_mono (clearTold_ok (n := e) H rfl) fun u S5 q => ?_)
    have H5 : Cx B0 W S5 (.obj er (.row [I e]) :: .obj t (.row (if e = 0 then [a, b] else [I 0, U 0])) :: (mOwn x s' m' ++ R)) ro2 := q
    have h2l : (if e = 0 then [a, b] else [I 0, U 0]).length = 2 := by split <;> rfl
    refine wp_loadoa (n := 2) (off := 0) H5 1 rfl (by rw [h2l]; exact Nat.le_refl _) ?_
    refine wp_row (j := 0) H5 0 rfl rfl ?_
    refine wp_ret ⟨rfl, r, e, s', m', ?_, hd, h1, h2, ((H5.dropAt 0).dropAt 0).dropRo hro⟩
    rw [List.drop_zero, List.take_of_length_le (by rw [h2l]; exact Nat.le_refl _)]
    show AV.tup [.agg (if e = 0 then [a, b] else [I 0, U 0]), I e] = _
    unfold told
    by_cases he : e = 0
    · rw [if_pos he, ← hab]
      split <;> rfl
    · rw [if_neg he, if_neg fun h => he h.1]
  unfold Tryz.a12x15 at fin
  have hsame : (if (0 : Int) = 0 ∧ (-1 : Int) ≠ -1 then [I (-1), U (keyAt s (-1))] else [I 0, U 0]) = [I 0, U 0] := if_neg fun h => h.2 rfl
  have refuse : ∀ {S4 : AH} {ro2 : List Fct} (e : Int), e ≠ 0 → (∀ φ ∈ ro, φ ∈ ro2) → DoR s kind at' now (-1) e s → Cx B0 W S4 (.obj er (.row [I 0]) :: .obj t (.row [I 0, U 0]) :: (mOwn x s m ++ R)) ro2 → ∀ vs', 
      wp EM (.op (.load 2 true (.ptr t 0)) fun a => .op (.store 2 (.ptr t 0) a) fun _ => .op (.store 1 (.ptr er 0) (I e)) fun _ => .ret .ret vs') S4 fun tg vs S' => tg = .ret ∧ vs = vs' ∧ Cx B0 W S' (.obj er (.row [I e]) :: .obj t (.row [I 0, U 0]) :: (mOwn x s m ++ R)) ro2 := by
    intro S4 ro2 e he hro hd H vs'
    refine wp_loadoa (n := 2) (off := 0) H 1 rfl (Nat.le_of_ble_eq_true rfl) ?_
    refine wp_store H 1 rfl rfl rfl (Nat.le_of_ble_eq_true rfl) fun S5 H => ?_
    refine wp_store H 0 rfl rfl rfl (Nat.le_of_ble_eq_true rfl) fun S6 H => ?_
    exact wp_ret ⟨rfl, rfl, H⟩
  have h64 := h.wf.j64
  refine wp_call (wpC_mono (nothing_ok (x := x) (s := s) (m := m) (R := .obj er (.row [I 0]) :: .obj t (.row [I 0, U 0]) :: R) (by omega) (H.perm ?_)) fun r S4 q => ?_)
  · exact (List.Perm.cons _ List.perm_middle.symm).trans List.perm_middle.symm
  obtain ⟨rfl, rfl⟩ := q
  try(refine zz ?_;(repeat constructor);intro _)
  refine wp_ld H (o := 0) (cs := [I kind, I at', I now]) (by repeat (first | exact List.Mem.head _ | apply List.Mem.tail)) rfl ?_
  refine wp_call (wpC_mono (deeds_ok H) fun u S5 q => ?_)
  obtain ⟨p, rfl, H5⟩ := q
  refine wp_chk1 H5 (cs := [I kind, I at', I now]) (off := 0) (j := 0) (by repeat (first | exact List.Mem.head _ | apply List.Mem.tail)) rfl beq_num ?_
  refine wp_lookupR H5 undI (by repeat (first | exact List.Mem.head _ | apply List.Mem.tail)) ?_
  have hro5 : ∀ φ ∈ ro, φ ∈ Fct.ob p (.map (ment deedM)) :: Fct.pt b 0 [I kind, I at', I now] :: ro := fun φ hφ => List.mem_cons_of_mem _ (List.mem_cons_of_mem _ hφ)
  by_cases hk : 1 ≤ kind ∧ kind ≤ 5
  · have hfn : evalOp EM.P (.eq 72 false ((mget deedM kind).getD Nf) Nf) S5 = some (B false, S5) := by
      have hcase : kind = 1 ∨ kind = 2 ∨ kind = 3 ∨ kind = 4 ∨ kind = 5 := by omega
      rcases hcase with rfl | rfl | rfl | rfl | rfl <;> rfl
    refine wp_op hfn ?_
    try(refine zz ?_;(repeat constructor);intro _)
    refine wp_row (j := 0) H5 2 rfl rfl ?_
    try(refine zz ?_;(repeat constructor);intro _)
    refine wp_ld H5 (o := 0) (cs := [I kind, I at', I now]) (by repeat (first | exact List.Mem.head _ | apply List.Mem.tail)) rfl ?_
    have rest : ∀ {S6 : AH}, (kind = 1 → 0 ≤ now ∧ now ≤ 1099511627776) → Cx B0 W S6 (.obj er (.row [I 0]) :: .obj t (.row [I 0, U 0]) :: (mOwn x s m ++ R)) (.ob p (.map (ment deedM)) :: .pt b 0 [I kind, I at', I now] :: ro) →
        wp EM (.op (.faddr 1 (.ptr b 0)) fun v18 => .op (.load 1 false v18) fun v19 => .op (.bin .lss v19 (I 0)) fun v20 => Tryz.a12x10 ([] ++ ([.ptr x 0, Deal kind at' now] ++ [])) (.ptr b 0) (.ptr t 0) (.ptr er 0) ((mget deedM kind).getD Nf) [I (most s kind)] v20) S6 fun tg vs S' => tg = .ret ∧ vs = [.ptr t 0, .ptr er 0] ∧ ∃ r e s' m', DoR s kind at' now r e s' ∧ m'.bx.length = s'.mail.length ∧ m'.vt = m.vt ∧ Cx B0 W S' (.obj er (.row [I e]) :: .obj t (.row (if e = 0 ∧ r ≠ -1 then [I r, U (keyAt s' r)] else [I 0, U 0])) :: (mOwn x s' m' ++ R)) (.ob p (.map (ment deedM)) :: .pt b 0 [I kind, I at', I now] :: ro) := by
      intro S6 hnow H6
      unfold Tryz.a12x10 Tryz.a12x4 Tryz.a12x9 Tryz.a12x8 Tryz.a12x7 Tryz.a12x6 Tryz.a12x5
      have bad : ¬ (0 ≤ at' ∧ at' < most s kind) → wp EM (.op (.load 2 true (.ptr t 0)) fun a => .op (.store 2 (.ptr t 0) a) fun _ => .op (.store 1 (.ptr er 0) (I 3)) fun _ => .ret .ret [.ptr t 0, .ptr er 0]) S6 fun tg vs S' => tg = .ret ∧ vs = [.ptr t 0, .ptr er 0] ∧ ∃ r e s' m', DoR s kind at' now r e s' ∧ m'.bx.length = s'.mail.length ∧ m'.vt = m.vt ∧ Cx B0 W S' (.obj er (.row [I e]) :: .obj t (.row (if e = 0 ∧ r ≠ -1 then [I r, U (keyAt s' r)] else [I 0, U 0])) :: (mOwn x s' m' ++ R)) (.ob p (.map (ment deedM)) :: .pt b 0 [I kind, I at', I now] :: ro) := fun hb => by
        have hd : DoR s kind at' now (-1) 3 s := .inr (.inl ⟨hk, fun q => hb q.2, rfl, rfl, rfl⟩)
        refine wp_mono (refuse 3 (by omega) hro5 hd H6 _) fun tg vs S' q => ?_
        obtain ⟨q1, q2, q3⟩ := q
        exact ⟨q1, q2, -1, 3, s, m, hd, h.bx, rfl, by rw [if_neg (by omega)]; exact q3⟩
      try(refine zz ?_;(repeat constructor);intro _)
      refine wp_ld H6 (o := 1) (cs := [I kind, I at', I now]) (by repeat (first | exact List.Mem.head _ | apply List.Mem.tail)) rfl ?_
      refine wp_lss (fun h0 => ?_) (fun h0 => ?_)
      · try(refine zz ?_;(repeat constructor);intro _)
        exact bad (by omega)
      try(refine zz ?_;(repeat constructor);intro _)
      refine wp_ld H6 (o := 1) (cs := [I kind, I at', I now]) (by repeat (first | exact List.Mem.head _ | apply List.Mem.tail)) rfl ?_
      try(refine zz ?_;(repeat constructor);intro _)
      refine wp_geq (fun h1 => ?_) (fun h1 => ?_)
      · try(refine zz ?_;(repeat constructor);intro _)
        exact bad (by omega)
      clear bad
      have hf : mayAt s kind at' now := ⟨hnow, h0, h1⟩
      try(refine zz ?_;(repeat constructor);intro _)
      refine wp_ldn H6 (o := 0) (n := 3) (cs := [I kind, I at', I now]) (by repeat (first | exact List.Mem.head _ | apply List.Mem.tail)) rfl ?_
      have H7 : Cx B0 W S6 (mOwn x s m ++ (.obj er (.row [I 0]) :: .obj t (.row [I 0, U 0]) :: R)) (.ob p (.map (ment deedM)) :: .pt b 0 [I kind, I at', I now] :: ro) := H6.perm ((List.Perm.cons _ List.perm_middle.symm).trans List.perm_middle.symm)
      have hfit : Fit s m (.ob p (.map (ment deedM)) :: .pt b 0 [I kind, I at', I now] :: ro) := ⟨h.wf, h.bx, h.jl, hro5 _ h.vt, h.sq, h.fr⟩
      show wp EM (.call _ [.ptr x 0, Deal kind at' now] _) _ _
      refine wp_call (wpC_mono (deed_ok hfit hk hf H7) fun u S7 q => ?_)
      obtain ⟨r, e, s', m', rfl, hop, hbx', hvt', H8⟩ := q
      have hto := hop.told hfit hf
      have H8 : Cx B0 W S7 (.obj er (.row [I 0]) :: .obj t (.row [I 0, U 0]) :: (mOwn x s' m' ++ R)) (.ob p (.map (ment deedM)) :: .pt b 0 [I kind, I at', I now] :: ro) := H8.perm (((List.Perm.cons _ List.perm_middle.symm).trans List.perm_middle.symm).symm)
      try(refine zz ?_;(repeat constructor);intro _)
      refine wp_store H8 0 rfl rfl rfl (Nat.le_of_ble_eq_true rfl) fun S8 H9 => ?_
      have H9 : Cx B0 W S8 (.obj er (.row [I e]) :: .obj t (.row [I 0, U 0]) :: (mOwn x s' m' ++ R)) (.ob p (.map (ment deedM)) :: .pt b 0 [I kind, I at', I now] :: ro) := H9
      refine wp_row (j := 0) H9 0 rfl rfl ?_
      have last : ∀ {S9 : AH} {a c : AV}, odd a = false → odd c = false → a.cells = [a] → c.cells = [c] → [a, c] = (if e = 0 ∧ r ≠ -1 then [I r, U (keyAt s' r)] else [I 0, U 0]) → Cx B0 W S9 (.obj er (.row [I e]) :: .obj t (.row [a, c]) :: (mOwn x s' m' ++ R)) (.ob p (.map (ment deedM)) :: .pt b 0 [I kind, I at', I now] :: ro) →
          wp EM (.op (.load 2 true (.ptr t 0)) fun v37 => .op (.load 1 false (.ptr er 0)) fun v38 => .op (.store 2 (.ptr t 0) v37) fun v39 => .chk (.load 1 false (.ptr er 0)) v38 (.op (.store 1 (.ptr er 0) v38) fun v40 => .ret .ret [.ptr t 0, .ptr er 0])) S9 fun tg vs S' => tg = .ret ∧ vs = [.ptr t 0, .ptr er 0] ∧ ∃ r e s' m', DoR s kind at' now r e s' ∧ m'.bx.length = s'.mail.length ∧ m'.vt = m.vt ∧ Cx B0 W S' (.obj er (.row [I e]) :: .obj t (.row (if e = 0 ∧ r ≠ -1 then [I r, U (keyAt s' r)] else [I 0, U 0])) :: (mOwn x s' m' ++ R)) (.ob p (.map (ment deedM)) :: .pt b 0 [I kind, I at', I now] :: ro) := by
        intro S9 a c oa oc ca cc hac H10
        refine wp_loadoa (n := 2) (off := 0) H10 1 rfl (Nat.le_of_ble_eq_true rfl) ?_
        refine wp_row (j := 0) H10 0 rfl rfl ?_
        have oac : odd (.agg [a, c]) = false := by
          by_cases hh : e = 0 ∧ r ≠ -1
          · rw [if_pos hh] at hac; cases hac; rfl
          · rw [if_neg hh] at hac; cases hac; rfl
        refine wp_store (n := 2) H10 1 rfl oac rfl (Nat.le_of_ble_eq_true rfl) fun S10 H11 => ?_
        refine wp_cko (o := 0) H11 0 rfl rfl beq_num ?_
        refine wp_store (n := 1) H11 0 rfl rfl rfl (Nat.le_of_ble_eq_true rfl) fun S11 H12 => ?_
        refine wp_ret ⟨rfl, rfl, r, e, s', m', .inr (.inr ⟨hk, hf, hop⟩), hbx', hvt', ?_⟩
        rw [← hac]
        exact H12
      refine wp_eql (fun he => ?_) (fun he => ?_)
      · try(refine zz ?_;(repeat constructor);intro _)
        refine wp_neq (fun hne => ?_) (fun hr => ?_)
        · have hrb := hto.2.2.2.2.2 he hne
          obtain ⟨n, rfl⟩ : ∃ n : Nat, r = (n : Int) := ⟨r.toNat, by omega⟩
          have hn : n < s'.jobs.length := by rw [hto.2.1]; omega
          obtain ⟨y, hy, _⟩ := hto.1.job hn
          try(refine zz ?_;(repeat constructor);intro _)
          refine wp_bind ?_
          try(refine zz ?_;(repeat constructor);intro _)
          refine wp_row (j := 9) H9 2 rfl rfl ?_
          refine wp_at (es := 4) (i := n) H9 4 rfl (by rw [lvs_len]; exact hn) fun id off hp => ?_
          try(refine zz ?_;(repeat constructor);intro _)
          refine wp_atL H9 4 rfl hp (lvs_get? hy) (j := 3) rfl ?_
          refine wp_op (v := .agg [I (n : Int), U y.key]) rfl ?_
          refine wp_store H9 1 rfl rfl rfl (Nat.le_of_ble_eq_true rfl) fun S9 H10 => ?_
          refine wp_ret ?_
          show wp EM _ _ _
          exact last rfl rfl rfl rfl (by rw [if_pos ⟨he, hne⟩]; unfold keyAt; rw [Int.toNat_natCast, hy]) H10
        · try(refine zz ?_;(repeat constructor);intro _)
          refine wp_bind ?_
          try(refine zz ?_;(repeat constructor);intro _)
          refine wp_ret ?_
          show wp EM _ _ _
          exact last rfl rfl rfl rfl (by rw [if_neg fun h => h.2 hr]) H9
      · try(refine zz ?_;(repeat constructor);intro _)
        refine wp_bind ?_
        try(refine zz ?_;(repeat constructor);intro _)
        refine wp_ret ?_
        show wp EM _ _ _
        exact last rfl rfl rfl rfl (by rw [if_neg fun h => he h.1]) H9
    unfold Tryz.a12x10 Tryz.a12x4 Tryz.a12x9 Tryz.a12x8 Tryz.a12x7 Tryz.a12x6 Tryz.a12x5 at rest
    have glue : ∀ {S6 : AH} {y : AC}, (wp EM y S6 fun tg vs S' => tg = .ret ∧ vs = [.ptr t 0, .ptr er 0] ∧ ∃ r e s' m', DoR s kind at' now r e s' ∧ m'.bx.length = s'.mail.length ∧ m'.vt = m.vt ∧ Cx B0 W S' (.obj er (.row [I e]) :: .obj t (.row (if e = 0 ∧ r ≠ -1 then [I r, U (keyAt s' r)] else [I 0, U 0])) :: (mOwn x s' m' ++ R)) (.ob p (.map (ment deedM)) :: .pt b 0 [I kind, I at', I now] :: ro)) →
        wp EM y S6 fun tg vs S' => (tg = .normal ∨ tg = .ret) ∧ wp EM (.call (.fn (.func 30) [] [.ptr er 0, .ptr t 0]) [] fun v5 => .op (.load 2 true (nth vs 0)) fun v6 => .op (.load 1 false (nth vs 1)) fun v7 => .ret .ret [v6, v7]) S' fun tg vs S' => tg = .ret ∧ ∃ r e s' m', oneOf vs = .tup [told s' r e, I e] ∧ DoR s kind at' now r e s' ∧ m'.bx.length = s'.mail.length ∧ m'.vt = m.vt ∧ Cx B0 W S' (mOwn x s' m' ++ R) ro := by
      intro S6 y hy
      refine wp_mono hy fun tg vs S' q => ?_
      obtain ⟨rfl, rfl, r, e, s', m', q1, q2, q3, q4⟩ := q
      exact ⟨.inr rfl, fin hro5 q1 q2 q3 q4⟩
    refine wp_eql (fun hk1 => ?_) (fun hk1 => ?_)
    · refine wp_bind ?_
      try(refine zz ?_;(repeat constructor);intro _)
      refine wp_row (j := 6) H5 2 rfl rfl ?_
      refine wp_len H5 (hro5 _ h.vt) ?_
      rw [tks_len]
      try(refine zz ?_;(repeat constructor);intro _)
      refine wp_ld H5 (o := 2) (cs := [I kind, I at', I now]) (by repeat (first | exact List.Mem.head _ | apply List.Mem.tail)) rfl ?_
      have bad : ¬ (0 ≤ now ∧ now ≤ 1099511627776) → wp EM (.op (.load 2 true (.ptr t 0)) fun a => .op (.store 2 (.ptr t 0) a) fun _ => .op (.store 1 (.ptr er 0) (I 3)) fun _ => .ret .ret [I (s.T.length : Int)]) S5 fun tg vs S' => tg = .ret ∧ vs = [I (s.T.length : Int)] ∧ ∃ r e s' m', DoR s kind at' now r e s' ∧ m'.bx.length = s'.mail.length ∧ m'.vt = m.vt ∧ Cx B0 W S' (.obj er (.row [I e]) :: .obj t (.row (if e = 0 ∧ r ≠ -1 then [I r, U (keyAt s' r)] else [I 0, U 0])) :: (mOwn x s' m' ++ R)) (.ob p (.map (ment deedM)) :: .pt b 0 [I kind, I at', I now] :: ro) := fun hb => by
        have hd : DoR s kind at' now (-1) 3 s := .inr (.inl ⟨hk, fun q => hb (q.1 hk1), rfl, rfl, rfl⟩)
        refine wp_mono (refuse 3 (by omega) hro5 hd H5 _) fun tg vs S' q => ?_
        obtain ⟨q1, q2, q3⟩ := q
        exact ⟨q1, q2, -1, 3, s, m, hd, h.bx, rfl, by rw [if_neg (by omega)]; exact q3⟩
      have em : most s kind = (s.T.length : Int) := if_pos hk1
      rw [em] at rest
      refine wp_lss (fun h0 => ?_) (fun h0 => ?_)
      · try(refine zz ?_;(repeat constructor);intro _)
        refine wp_mono (bad (by omega)) fun tg vs S' q => ?_
        obtain ⟨rfl, rfl, r, e, s', m', q1, q2, q3, q4⟩ := q
        exact ⟨.inr rfl, fin hro5 q1 q2 q3 q4⟩
      · try(refine zz ?_;(repeat constructor);intro _)
        refine wp_ld H5 (o := 2) (cs := [I kind, I at', I now]) (by repeat (first | exact List.Mem.head _ | apply List.Mem.tail)) rfl ?_
        try(refine zz ?_;(repeat constructor);intro _)
        refine wp_gtr (fun h1 => ?_) (fun h1 => ?_)
        · try(refine zz ?_;(repeat constructor);intro _)
          refine wp_mono (bad (by omega)) fun tg vs S' q => ?_
          obtain ⟨rfl, rfl, r, e, s', m', q1, q2, q3, q4⟩ := q
          exact ⟨.inr rfl, fin hro5 q1 q2 q3 q4⟩
        · try(refine zz ?_;(repeat constructor);intro _)
          refine wp_ret ?_
          show wp EM _ _ _
          exact glue (rest (fun _ => ⟨h0, h1⟩) H5)
    · refine wp_bind ?_
      try(refine zz ?_;(repeat constructor);intro _)
      refine wp_ret ?_
      show wp EM _ _ _
      have em : most s kind = s.su.cores := if_neg hk1
      rw [em] at rest
      exact glue (rest (fun h => absurd h hk1) H5)
  · have hg : (mget deedM kind).getD Nf = Nf := by
      have e : mget deedM kind = none := by
        simp only [deedM, mget]
        rw [if_neg (by omega), if_neg (by omega), if_neg (by omega), if_neg (by omega), if_neg (by omega)]
      rw [e]; rfl
    rw [hg]
    refine wp_op (v := B true) (by rfl) ?_
    try(refine zz ?_;(repeat constructor);intro _)
    have hd : DoR s kind at' now (-1) 2 s := .inl ⟨hk, rfl, rfl, rfl⟩
    refine wp_mono (refuse 2 (by omega) hro5 hd H5 _) fun tg vs S' q => ?_
    obtain ⟨rfl, rfl, q3⟩ := q
    exact ⟨.inr rfl, fin (m' := m) hro5 hd h.bx rfl (by rw [if_neg (by omega)]; exact q3)⟩
end
end Go.Abs
namespace Go.Abs
open Go.Proofs
set_option maxRecDepth 100000
set_option linter.unusedVariables false
open Tsk (Tk tks tchk tks_len tks_get)
section
variable {B0 S : AH} {W : List Nat} {own R : List Own} {ro : List Fct} {Q : Post} {k : AV → AC} {v : AV} {x : Nat} {s : Ms} {m : Mv}
theorem wp_mkslice1 {M : Mach} {z : AV} {bytes n : Nat} (H : Cx B0 W S own ro) (hb : bytes * n ≤ 140737488355328) (hn : n ≤ 9223372036854775807)
    (h : ∀ t S1, Cx B0 W S1 (.sl t 1 (List.replicate n [z]) :: own) ro → wp M (k t) S1 Q) : wp M (.op (.mkslice 1 bytes [z] (I (n : Int)) (I (n : Int))) k) S Q := by
  have hz : ∀ m : Nat, repZero [z] m = List.replicate m z := by
    intro m
    induction m with
    | zero => rfl
    | succ m ih =>
      show appL [z] (repZero [z] m) = _
      rw [ih, appL_eq]; rfl
  have hnat : nat? (n : Int) = some n := by
    unfold nat?
    rfl
  refine wp_op (v := .sl S.next 0 n n) (S1 := S.new (.row (List.replicate n z))) ?_ (h _ _ (H.addOwn (Grows.new S _) (.inr ⟨S.next, 0, List.replicate n z, .inl ⟨n, by simp, by simp, by simp⟩, get_new_same _ _, ?_, ?_⟩) ?_))
  · show nMkslice 1 bytes [z] (I (n : Int)) (I (n : Int)) S = _
    unfold nMkslice
    simp only [asInt, vInt, hnat]
    have e : (Nat.ble n n && Nat.ble (Nat.mul bytes n) 140737488355328 && Nat.ble n 9223372036854775807 && Nat.beq (lenL [z]) 1) = true := by
      have hb' : Nat.ble (Nat.mul bytes n) 140737488355328 = true := ble_t hb
      rw [ble_t (Nat.le_refl n), hb', ble_t hn]; rfl
    rw [e, hz]
    rfl
  · have : ∀ m : Nat, (List.replicate m [z]).flatten = List.replicate m z := by
      intro m
      induction m with
      | zero => rfl
      | succ m ih => rw [List.replicate_succ, List.flatten_cons, ih]; rfl
    rw [this]; simp
  · intro x hx
    rw [(List.mem_replicate.1 hx).2]; rfl
  · intro j hj
    simp only [Own.ids, vids, List.mem_singleton] at hj
    subst hj
    simp
theorem Cx.addNils (H : Cx B0 W S own ro) (es n : Nat) : Cx B0 W S (List.replicate n (.sl Ns es []) ++ own) ro := by
  induction n with
  | zero => exact H
  | succ n ih => exact ih.addNilS es
theorem Cx.freezeSl (H : Cx B0 W S own ro) {i es : Nat} {u : AV} {L : List (List AV)} (hi : own[i]? = some (.sl u es L)) : Cx B0 W S (own.eraseIdx i) (.sl u es L :: ro) := by
  have hmem := List.mem_of_getElem? hi
  have hsub : ∀ x ∈ own.eraseIdx i, x ∈ own := fun x hx => List.mem_of_mem_eraseIdx hx
  have K : Cx B0 W S (own.eraseIdx i) ro := H.dropOwn (List.eraseIdx_sublist _ _)
  refine K.addRo (ownSl_ok (H.oh _ hmem)) fun j hj => ⟨(H.oi _ hmem j hj).1, fun x hx hj2 => ?_⟩
  have hj : j ∈ (Own.sl u es L).ids := hj
  obtain ⟨m, hm⟩ := List.getElem?_of_mem hx
  have hp := H.od
  rw [List.pairwise_iff_getElem] at hp
  obtain ⟨hi1, hi2⟩ := List.getElem?_eq_some_iff.1 hi
  rw [List.getElem?_eraseIdx] at hm
  split at hm
  · rename_i hlt
    obtain ⟨hm1, hm2⟩ := List.getElem?_eq_some_iff.1 hm
    exact hp m i hm1 hi1 hlt j (by rw [hm2]; exact hj2) (by rw [hi2]; exact hj)
  · rename_i hge
    obtain ⟨hm1, hm2⟩ := List.getElem?_eq_some_iff.1 hm
    exact hp i (m + 1) hi1 hm1 (by omega) j (by rw [hi2]; exact hj) (by rw [hm2]; exact hj2)
/-! ### a new model -/
def jobs0 (n : Nat) : List Lv := (List.range n).map fun (i : Nat) => ⟨(i : Int), 1, 0, 0⟩
def free0 (n : Nat) : List Int := (List.range n).map fun (i : Nat) => (i : Int)
def Ms.part (su : Su) (l : List Tk) (p j r : Nat) : Ms := ⟨su, l, List.replicate p (-1), 0, jobs0 j, free0 j, List.replicate su.cores.toNat [], List.replicate r (-1), List.replicate su.cores.toNat false⟩
def Ms.init (su : Su) (l : List Tk) : Ms := Ms.part su l l.length su.jobs.toNat su.cores.toNat
theorem jobs0_succ (n : Nat) : jobs0 (n + 1) = jobs0 n ++ [⟨(n : Int), 1, 0, 0⟩] := by unfold jobs0; rw [List.range_succ, List.map_append]; rfl
theorem free0_succ (n : Nat) : free0 (n + 1) = free0 n ++ [(n : Int)] := by unfold free0; rw [List.range_succ, List.map_append]; rfl
theorem jobs0_len (n : Nat) : (jobs0 n).length = n := by simp [jobs0]
theorem free0_len (n : Nat) : (free0 n).length = n := by simp [free0]
theorem ints_app (a b : List Int) : ints (a ++ b) = ints a ++ ints b := List.map_append ..
theorem e_buildM {su : Su} {u a b : AV} {eu ea eb : Nat} {Lu La Lb : List (List AV)} (hu : slOk S u eu Lu) (ha : slOk S a ea La) (hb : slOk S b eb Lb) :
    evalOp EM.P (.build [I 0, I 0, I 0, I 0, I 0, I 0, Ns, Ns, I 0, Ns, Ns, Ns, Ns, Ns] [(0, 7, .agg (su.cs u)), (11, 1, a), (13, 1, b)]) S = some (.agg (su.cs u ++ [Ns, I 0, Ns, Ns, a, Ns, b]), S) := by
  rcases hu with ⟨rfl, _⟩ | ⟨_, _, _, (⟨_, _, _, rfl⟩ | ⟨_, _, _, rfl⟩), _⟩ <;> rcases ha with ⟨rfl, _⟩ | ⟨_, _, _, (⟨_, _, _, rfl⟩ | ⟨_, _, _, rfl⟩), _⟩ <;> rcases hb with ⟨rfl, _⟩ | ⟨_, _, _, (⟨_, _, _, rfl⟩ | ⟨_, _, _, rfl⟩), _⟩ <;> rfl
theorem rep_boxes (n : Nat) : List.zipWith boxO (List.replicate n Ns) (List.replicate n []) = List.replicate n (.sl Ns 1 []) := by
  induction n with
  | zero => rfl
  | succ n ih => rw [List.replicate_succ, List.replicate_succ, List.replicate_succ, List.zipWith_cons_cons, ih]; rfl
theorem rep_succ {α : Type} (n : Nat) (a : α) : List.replicate (n + 1) a = List.replicate n a ++ [a] := List.replicate_succ'
theorem bls_rep (n : Nat) (b : Bool) : bls (List.replicate n b) = List.replicate n [B b] := by unfold bls; rw [List.map_replicate]
theorem ptrs_rep (n : Nat) (b : AV) : ptrs (List.replicate n b) = List.replicate n [b] := by unfold ptrs; rw [List.map_replicate]
theorem own_perm (Z Y : List Own) (a c d f g : Own) : (Z ++ (g :: g :: f :: g :: a :: c :: d :: Y)).Perm (a :: g :: f :: g :: d :: g :: c :: (Z ++ Y)) := by
  refine List.Perm.trans (List.perm_append_comm_assoc Z [g, g, f, g, a, c, d] Y) ?_
  refine List.Perm.append_right (Z ++ Y) (l₁ := [g, g, f, g, a, c, d]) (l₂ := [a, g, f, g, d, g, c]) ?_
  have p1 : List.Perm [g, g, f, g, a, c, d] (a :: [g, g, f, g, c, d]) := List.perm_middle (l₁ := [g, g, f, g])
  refine p1.trans (List.Perm.cons a (List.Perm.cons g ?_))
  have p2 : List.Perm [g, f, g, c, d] (f :: [g, g, c, d]) := List.perm_middle (l₁ := [g])
  refine p2.trans (List.Perm.cons f (List.Perm.cons g ?_))
  have p3 : List.Perm [g, c, d] (d :: [g, c]) := List.perm_middle (l₁ := [g, c]) (l₂ := [])
  exact p3
end
end Go.Abs
namespace Go.Abs
open Go.Proofs
set_option maxRecDepth 100000
set_option linter.unusedVariables false
open Tsk (Tk tks tchk)
/-! ### each job is in one place -/
def sqn (y : Lv) : Int := y.key / 65536 % 1099511627776
structure InvB (s : Ms) : Prop where
  wf : s.Wf
  st : ∀ (i : Nat) y, s.jobs[i]? = some y → (y.st = 1 ∨ y.st = 2 ∨ y.st = 3 ∨ y.st = 4) ∧ (y.st = 4 → 0 ≤ y.core)
  fr : ∀ (i : Nat) y, s.jobs[i]? = some y → (y.st = 1 ↔ (i : Int) ∈ s.free)
  ma : ∀ (i : Nat) y, s.jobs[i]? = some y → (y.st = 2 ↔ (i : Int) ∈ s.mail.flatten)
  ru : ∀ (i : Nat) y, s.jobs[i]? = some y → ∀ c : Nat, (s.runs[c]? = some (i : Int) ↔ y.st = 4 ∧ y.core = (c : Int))
  fn : s.free.Nodup
  mn : s.mail.flatten.Nodup
  ky : ∀ (i : Nat) y, s.jobs[i]? = some y → y.st ≠ 1 → 1 ≤ sqn y ∧ sqn y ≤ s.seq
  kd : ∀ (i j : Nat) y z, s.jobs[i]? = some y → s.jobs[j]? = some z → y.st ≠ 1 → z.st ≠ 1 → sqn y = sqn z → i = j
theorem set_get {α : Type} {l : List α} {n i : Nat} {a b : α} (h : (l.set n a)[i]? = some b) (hn : n < l.length) : (i = n ∧ b = a) ∨ (i ≠ n ∧ l[i]? = some b) := by
  rw [List.getElem?_set] at h
  by_cases e : n = i
  · subst e
    rw [if_pos rfl, if_pos hn] at h
    cases h
    exact .inl ⟨rfl, rfl⟩
  · rw [if_neg e] at h
    exact .inr ⟨fun q => e q.symm, h⟩
theorem InvB.upd {s s' : Ms} (h : InvB s) {n : Nat} {y' : Lv} (hj : s'.jobs = s.jobs.set n y') (hn : n < s.jobs.length) (wf : s'.Wf)
    (st : (y'.st = 1 ∨ y'.st = 2 ∨ y'.st = 3 ∨ y'.st = 4) ∧ (y'.st = 4 → 0 ≤ y'.core))
    (f1 : ∀ i : Nat, i ≠ n → ((i : Int) ∈ s'.free ↔ (i : Int) ∈ s.free)) (f2 : y'.st = 1 ↔ (n : Int) ∈ s'.free) (fn : s'.free.Nodup)
    (m1 : ∀ i : Nat, i ≠ n → ((i : Int) ∈ s'.mail.flatten ↔ (i : Int) ∈ s.mail.flatten)) (m2 : y'.st = 2 ↔ (n : Int) ∈ s'.mail.flatten) (mn : s'.mail.flatten.Nodup)
    (r1 : ∀ i : Nat, i ≠ n → ∀ c : Nat, (s'.runs[c]? = some (i : Int) ↔ s.runs[c]? = some (i : Int))) (r2 : ∀ c : Nat, (s'.runs[c]? = some (n : Int) ↔ y'.st = 4 ∧ y'.core = (c : Int)))
    (sq : s.seq ≤ s'.seq) (ky : y'.st ≠ 1 → 1 ≤ sqn y' ∧ sqn y' ≤ s'.seq) (kd : y'.st ≠ 1 → ∀ (i : Nat) z, i ≠ n → s.jobs[i]? = some z → z.st ≠ 1 → sqn z ≠ sqn y') : InvB s' where
  wf := wf
  st := fun i y hy => by
    rw [hj] at hy
    rcases set_get hy hn with ⟨rfl, rfl⟩ | ⟨hi, hy⟩
    · exact st
    · exact h.st i y hy
  fr := fun i y hy => by
    rw [hj] at hy
    rcases set_get hy hn with ⟨rfl, rfl⟩ | ⟨hi, hy⟩
    · exact f2
    · rw [f1 i hi]; exact h.fr i y hy
  ma := fun i y hy => by
    rw [hj] at hy
    rcases set_get hy hn with ⟨rfl, rfl⟩ | ⟨hi, hy⟩
    · exact m2
    · rw [m1 i hi]; exact h.ma i y hy
  ru := fun i y hy c => by
    rw [hj] at hy
    rcases set_get hy hn with ⟨rfl, rfl⟩ | ⟨hi, hy⟩
    · exact r2 c
    · rw [r1 i hi c]; exact h.ru i y hy c
  fn := fn
  mn := mn
  ky := fun i y hy hs => by
    rw [hj] at hy
    rcases set_get hy hn with ⟨rfl, rfl⟩ | ⟨hi, hy⟩
    · exact ky hs
    · have := h.ky i y hy hs; omega
  kd := fun i j y z hy hz h1 h2 he => by
    rw [hj] at hy hz
    have ey := set_get hy hn
    have ez := set_get hz hn
    clear hy hz
    rcases ey with ⟨rfl, rfl⟩ | ⟨hi, hy⟩ <;> rcases ez with ⟨rfl, rfl⟩ | ⟨hj', hz⟩
    · rfl
    · exact absurd he.symm (kd h1 j z hj' hz h2)
    · exact absurd he (kd h2 i y hi hy h1)
    · exact h.kd i j y z hy hz h1 h2 he
theorem InvB.same {s s' : Ms} (h : InvB s) (wf : s'.Wf) (h1 : s'.jobs = s.jobs) (h2 : s'.free = s.free) (h3 : s'.mail = s.mail) (h4 : s'.runs = s.runs) (h5 : s.seq ≤ s'.seq) : InvB s' where
  wf := wf
  st := by rw [h1]; exact h.st
  fr := by rw [h1, h2]; exact h.fr
  ma := by rw [h1, h3]; exact h.ma
  ru := by rw [h1, h4]; exact h.ru
  fn := by rw [h2]; exact h.fn
  mn := by rw [h3]; exact h.mn
  ky := fun i y hy hs => by rw [h1] at hy; have := h.ky i y hy hs; omega
  kd := by rw [h1]; exact h.kd
theorem InvB.bal {s s' : Ms} (h : InvB s) (b : Bal s s') : InvB s' := by
  obtain ⟨h1, h2, h3, h4, h5, h6, h7, h8⟩ := b.same
  exact h.same (b.wf h.wf) h1 h7 h5 h6 (by omega)
theorem runs_set {l : List Int} {c d : Nat} {a b : Int} (hc : c < l.length) : (l.set c a)[d]? = some b ↔ (d = c ∧ b = a) ∨ (d ≠ c ∧ l[d]? = some b) := by
  rw [List.getElem?_set]
  by_cases e : c = d
  · subst e
    rw [if_pos rfl, if_pos hc]
    constructor
    · intro h; cases h; exact .inl ⟨rfl, rfl⟩
    · rintro (⟨_, rfl⟩ | ⟨h, _⟩)
      · rfl
      · exact absurd rfl h
  · rw [if_neg e]
    constructor
    · intro h; exact .inr ⟨fun q => e q.symm, h⟩
    · rintro (⟨h, _⟩ | ⟨_, h⟩)
      · exact absurd h.symm e
      · exact h
theorem InvB.claim {s : Ms} (h : InvB s) {c : Nat} {z : Lv} (hr : s.runs[c]? = some (-1)) (hz : IsLeast z (rdy s.jobs)) : InvB (s.claim c z) := by
  obtain ⟨n, h1, h2, h3⟩ := h.wf.least hz
  have hn := (List.getElem?_eq_some_iff.1 h2).1
  have hc := (List.getElem?_eq_some_iff.1 hr).1
  have e : z.job.toNat = n := by rw [h1, Int.toNat_natCast]
  refine h.upd (n := n) (y' := ⟨z.job, 4, c, z.key⟩) (by unfold Ms.claim; rw [e]) hn (h.wf.claim hz) ⟨by simp, fun _ => by show 0 ≤ (c : Int); omega⟩ (fun i hi => Iff.rfl) ?_ h.fn (fun i hi => Iff.rfl) ?_ h.mn ?_ ?_ (Int.le_refl _) ?_ ?_
  · have := h.fr n z h2
    show (4 : Int) = 1 ↔ (n : Int) ∈ s.free
    rw [← this, h3]; simp
  · have := h.ma n z h2
    show (4 : Int) = 2 ↔ (n : Int) ∈ s.mail.flatten
    rw [← this, h3]; simp
  · intro i hi d
    show (s.runs.set c z.job)[d]? = some (i : Int) ↔ _
    rw [runs_set hc]
    constructor
    · rintro (⟨rfl, hh⟩ | ⟨_, hh⟩)
      · rw [h1] at hh; exact absurd (Int.ofNat.inj hh) hi
      · exact hh
    · intro hh
      refine .inr ⟨fun q => ?_, hh⟩
      subst q; rw [hr] at hh; cases hh
  · intro d
    show (s.runs.set c z.job)[d]? = some (n : Int) ↔ (4 : Int) = 4 ∧ (c : Int) = (d : Int)
    rw [runs_set hc]
    constructor
    · rintro (⟨rfl, _⟩ | ⟨_, hh⟩)
      · exact ⟨rfl, rfl⟩
      · have := (h.ru n z h2 d).1 hh; rw [h3] at this; simp at this
    · rintro ⟨_, hh⟩
      exact .inl ⟨by omega, h1.symm⟩
  · intro _
    exact h.ky n z h2 (by omega)
  · intro _ i y hi hy hs he
    exact hi (h.kd i n y z hy h2 hs (by omega) he)
theorem mail_cut {α : Type} {l : List α} {c : Nat} {x : α} (h : l[c]? = some x) : ∃ A B, l = A ++ x :: B ∧ ∀ y, l.set c y = A ++ y :: B := by
  obtain ⟨hc, rfl⟩ := List.getElem?_eq_some_iff.1 h
  refine ⟨l.take c, l.drop (c + 1), ?_, fun y => List.set_eq_take_append_cons_drop.trans (if_pos hc)⟩
  rw [← List.drop_eq_getElem_cons hc, List.take_append_drop]
theorem InvB.takes {s : Ms} (h : InvB s) {c : Nat} {i : Int} {l : List Int} {y : Lv} (h1 : s.mail[c]? = some (i :: l)) (h2 : s.jobs[i.toNat]? = some y) : InvB (s.takes c y l) := by
  obtain ⟨A, B, hA, hset⟩ := mail_cut h1
  have hib := (h.wf.mb _ (List.mem_of_getElem? h1)).2 i (List.mem_cons_self ..)
  obtain ⟨n, rfl⟩ : ∃ n : Nat, i = (n : Int) := ⟨i.toNat, by omega⟩
  rw [Int.toNat_natCast] at h2
  have hn := (List.getElem?_eq_some_iff.1 h2).1
  have hyj : y.job = (n : Int) := h.wf.jj _ _ h2
  have e : y.job.toNat = n := by rw [hyj, Int.toNat_natCast]
  have hmn := h.mn
  rw [hA] at hmn
  have hfl : (A ++ ((n : Int) :: l) :: B).flatten = A.flatten ++ ((n : Int) :: (l ++ B.flatten)) := by simp
  have hfl2 : (A ++ l :: B).flatten = A.flatten ++ (l ++ B.flatten) := by simp
  rw [hfl] at hmn
  have hp : (A.flatten ++ ((n : Int) :: (l ++ B.flatten))).Perm ((n : Int) :: (A.flatten ++ (l ++ B.flatten))) := List.perm_middle
  have hnd := List.nodup_cons.1 (hp.nodup_iff.1 hmn)
  have hst : y.st = 2 := (h.ma n y h2).2 (by rw [hA, hfl]; simp)
  refine h.upd (n := n) (y' := { y with st := 3 }) (by unfold Ms.takes; rw [e]) hn (h.wf.takes h1 (by rw [Int.toNat_natCast]; exact h2)) ⟨by simp, fun q => by cases q⟩ (fun i hi => Iff.rfl) ?_ h.fn ?_ ?_ ?_ (fun i hi c => Iff.rfl) ?_ (Int.le_refl _) ?_ ?_
  · show (3 : Int) = 1 ↔ (n : Int) ∈ s.free
    rw [← h.fr n y h2, hst]; simp
  · intro j hj
    show (j : Int) ∈ (s.mail.set c l).flatten ↔ _
    rw [hset, hA, hfl, hfl2]
    simp only [List.mem_append, List.mem_cons]
    constructor
    · rintro (q | q)
      · exact .inl q
      · exact .inr (.inr q)
    · rintro (q | q | q)
      · exact .inl q
      · exact absurd (Int.ofNat.inj q) hj
      · exact .inr q
  · show (3 : Int) = 2 ↔ (n : Int) ∈ (s.mail.set c l).flatten
    rw [hset, hfl2]
    exact ⟨fun q => by omega, fun q => absurd q hnd.1⟩
  · show (s.mail.set c l).flatten.Nodup
    rw [hset, hfl2]; exact hnd.2
  · intro d
    show s.runs[d]? = some (n : Int) ↔ (3 : Int) = 4 ∧ y.core = (d : Int)
    rw [h.ru n y h2 d, hst]
    constructor
    · rintro ⟨q, _⟩; omega
    · rintro ⟨q, _⟩; omega
  · intro _
    exact h.ky n y h2 (by omega)
  · intro _ i z hi hz hs he
    exact hi (h.kd i n z y hz h2 hs (by omega) he)
theorem InvB.runs {s : Ms} (h : InvB s) {c n : Nat} {y : Lv} (hr : s.runs[c]? = some (n : Int)) (hy : s.jobs[n]? = some y) : y.st = 4 ∧ y.core = (c : Int) := (h.ru n y hy c).1 hr
theorem nodup_lt {n : Nat} : ∀ {l : List Int}, l.Nodup → (∀ i ∈ l, 0 ≤ i ∧ i < (n : Int)) → ∀ a : Int, 0 ≤ a → a < (n : Int) → a ∉ l → l.length < n := by
  intro l hl hb a h0 h1 ha
  have h2 : ((a :: l).map Int.toNat).Nodup := by
    rw [List.nodup_iff_pairwise_ne, List.pairwise_map]
    have : (a :: l).Nodup := List.nodup_cons.2 ⟨ha, hl⟩
    rw [List.nodup_iff_pairwise_ne] at this
    refine this.imp_of_mem fun {x y} hx hy hne he => hne ?_
    have bx : 0 ≤ x := by
      rcases List.mem_cons.1 hx with rfl | hx
      · exact h0
      · exact (hb x hx).1
    have by' : 0 ≤ y := by
      rcases List.mem_cons.1 hy with rfl | hy
      · exact h0
      · exact (hb y hy).1
    omega
  have h3 := nodup_le h2 (n := n) (fun x hx => by
    obtain ⟨z, hz, rfl⟩ := List.mem_map.1 hx
    rcases List.mem_cons.1 hz with rfl | hz
    · omega
    · have := hb z hz; omega)
  simp at h3
  omega
theorem InvB.room {s : Ms} (h : InvB s) (c : Nat) (i : Int) (hr : s.runs[c]? = some i) (hi : i ≠ -1) : s.free.length < s.jobs.length := by
  obtain ⟨n, rfl, y, hy, hyj⟩ := h.wf.run hr hi
  have hn := (List.getElem?_eq_some_iff.1 hy).1
  refine nodup_lt h.fn h.wf.fb n (by omega) (by omega) fun hm => ?_
  have h1 := (h.fr n y hy).2 hm
  have h2 := (h.runs hr hy).1
  omega
theorem InvB.ends {s : Ms} (h : InvB s) {c n : Nat} {y : Lv} (hr : s.runs[c]? = some (n : Int)) (hy : s.jobs[n]? = some y) : InvB (s.ends c y) := by
  have hn := (List.getElem?_eq_some_iff.1 hy).1
  have hc := (List.getElem?_eq_some_iff.1 hr).1
  have hyj : y.job = (n : Int) := h.wf.jj _ _ hy
  have e : y.job.toNat = n := by rw [hyj, Int.toNat_natCast]
  obtain ⟨hst, hcore⟩ := h.runs hr hy
  have hnf : (n : Int) ∉ s.free := fun hm => by have := (h.fr n y hy).2 hm; omega
  refine h.upd (n := n) (y' := { y with st := 1, core := 0 }) (by unfold Ms.ends; rw [e]) hn (h.wf.ends hy hyj (h.room c n hr (by omega))) ⟨by simp, fun q => by cases q⟩ ?_ ?_ ?_ (fun i hi => Iff.rfl) ?_ h.mn ?_ ?_ (Int.le_refl _) (fun q => absurd rfl q) (fun q => absurd rfl q)
  · intro i hi
    show (i : Int) ∈ y.job :: s.free ↔ _
    rw [hyj, List.mem_cons]
    constructor
    · rintro (q | q)
      · exact absurd (Int.ofNat.inj q) hi
      · exact q
    · exact .inr
  · show (1 : Int) = 1 ↔ (n : Int) ∈ y.job :: s.free
    rw [hyj]; simp
  · show (y.job :: s.free).Nodup
    rw [hyj]; exact List.nodup_cons.2 ⟨hnf, h.fn⟩
  · show (1 : Int) = 2 ↔ (n : Int) ∈ s.mail.flatten
    rw [← h.ma n y hy, hst]; simp
  · intro i hi d
    show (s.runs.set c (-1))[d]? = some (i : Int) ↔ _
    rw [runs_set hc]
    constructor
    · rintro (⟨_, q⟩ | ⟨_, q⟩)
      · omega
      · exact q
    · intro q
      refine .inr ⟨fun hd => ?_, q⟩
      subst hd; rw [hr] at q; exact hi (Int.ofNat.inj (Option.some.inj q)).symm
  · intro d
    show (s.runs.set c (-1))[d]? = some (n : Int) ↔ (1 : Int) = 4 ∧ (0 : Int) = (d : Int)
    rw [runs_set hc]
    constructor
    · rintro (⟨_, q⟩ | ⟨hd, q⟩)
      · omega
      · have := (h.runs q hy).2
        exact absurd (by omega) hd
    · rintro ⟨q, _⟩; omega
theorem sqn_next {y : Lv} (h : y.key % 65536 ≠ 65535) (h0 : 0 ≤ y.key) {a b c : Int} : sqn ⟨a, b, c, y.key + 1⟩ = sqn y := by
  unfold sqn
  show (y.key + 1) / 65536 % 1099511627776 = _
  have : (y.key + 1) / 65536 = y.key / 65536 := by omega
  rw [this]
theorem InvB.gives {s : Ms} (h : InvB s) {c n : Nat} {y : Lv} (hr : s.runs[c]? = some (n : Int)) (hy : s.jobs[n]? = some y) (hk : y.key % 65536 ≠ 65535) : InvB (s.gives c y) := by
  have hn := (List.getElem?_eq_some_iff.1 hy).1
  have hc := (List.getElem?_eq_some_iff.1 hr).1
  have hyj : y.job = (n : Int) := h.wf.jj _ _ hy
  have e : y.job.toNat = n := by rw [hyj, Int.toNat_natCast]
  obtain ⟨hst, hcore⟩ := h.runs hr hy
  have hkb := h.wf.kb y (List.mem_of_getElem? hy)
  refine h.upd (n := n) (y' := ⟨y.job, 3, 0, y.key + 1⟩) (by unfold Ms.gives; rw [e]) hn (h.wf.gives hy hyj hk) ⟨by simp, fun q => by cases q⟩ (fun i hi => Iff.rfl) ?_ h.fn (fun i hi => Iff.rfl) ?_ h.mn ?_ ?_ (Int.le_refl _) ?_ ?_
  · show (3 : Int) = 1 ↔ (n : Int) ∈ s.free
    rw [← h.fr n y hy, hst]; simp
  · show (3 : Int) = 2 ↔ (n : Int) ∈ s.mail.flatten
    rw [← h.ma n y hy, hst]; simp
  · intro i hi d
    show (s.runs.set c (-1))[d]? = some (i : Int) ↔ _
    rw [runs_set hc]
    constructor
    · rintro (⟨_, q⟩ | ⟨_, q⟩)
      · omega
      · exact q
    · intro q
      refine .inr ⟨fun hd => ?_, q⟩
      subst hd; rw [hr] at q; exact hi (Int.ofNat.inj (Option.some.inj q)).symm
  · intro d
    show (s.runs.set c (-1))[d]? = some (n : Int) ↔ (3 : Int) = 4 ∧ (0 : Int) = (d : Int)
    rw [runs_set hc]
    constructor
    · rintro (⟨_, q⟩ | ⟨hd, q⟩)
      · omega
      · have := (h.runs q hy).2
        exact absurd (by omega) hd
    · rintro ⟨q, _⟩; omega
  · intro _
    rw [sqn_next hk hkb.1]
    exact h.ky n y hy (by omega)
  · intro _ i z hi hz hs he
    rw [sqn_next hk hkb.1] at he
    exact hi (h.kd i n z y hz hy hs (by omega) he)
theorem sqn_kword {p q : Int} (hp : 0 ≤ p) (hq : 0 ≤ q ∧ q ≤ 1099511627775) {a b c : Int} : sqn ⟨a, b, c, kword p q 0⟩ = q := by
  unfold sqn kword
  show (p * 72057594037927936 + q * 65536 + 0) / 65536 % 1099511627776 = q
  omega
theorem InvB.drops {s : Ms} (h : InvB s) {c : Nat} : InvB (s.drops c) := h.same h.wf.setFlag rfl rfl rfl rfl (Int.le_refl _)
end Go.Abs
namespace Go.Abs
open Go.Proofs
set_option maxRecDepth 100000
set_option linter.unusedVariables false
open Tsk (Tk tks tchk)
theorem InvB.rel {s : Ms} (h : InvB s) {i : Int} {f : List Int} {hh : Nat} {box : List Int} {p : Int} (hf : s.free = i :: f) (hb : s.mail[hh]? = some box) (hp : 0 ≤ p) (hq : s.seq + 1 ≤ 1099511627775)
    {t : Nat} {now : Int} (wf : (Ms.rel { s with passed := s.passed.set t now, seq := s.seq + 1 } i f hh box (kword p (s.seq + 1) 0)).Wf) :
    InvB (Ms.rel { s with passed := s.passed.set t now, seq := s.seq + 1 } i f hh box (kword p (s.seq + 1) 0)) := by
  have hib := h.wf.fb i (by rw [hf]; exact List.mem_cons_self ..)
  obtain ⟨n, rfl⟩ : ∃ n : Nat, i = (n : Int) := ⟨i.toNat, by omega⟩
  have hn : n < s.jobs.length := by omega
  obtain ⟨y, hy, hyj⟩ := h.wf.job hn
  have hs0 := h.wf.sq
  obtain ⟨A, B, hA, hset⟩ := mail_cut hb
  have hst : y.st = 1 := (h.fr n y hy).2 (by rw [hf]; exact List.mem_cons_self ..)
  have hfn := h.fn
  rw [hf, List.nodup_cons] at hfn
  have hnm : (n : Int) ∉ s.mail.flatten := fun hm => by have := (h.ma n y hy).2 hm; omega
  have hfl : (A ++ box :: B).flatten = A.flatten ++ (box ++ B.flatten) := by simp
  have hfl2 : (A ++ (box ++ [(n : Int)]) :: B).flatten = A.flatten ++ (box ++ ((n : Int) :: B.flatten)) := by simp
  have hp2 : (A.flatten ++ (box ++ ((n : Int) :: B.flatten))).Perm ((n : Int) :: (A.flatten ++ (box ++ B.flatten))) := by
    rw [← List.append_assoc, ← List.append_assoc]
    exact List.perm_middle
  have hmn := h.mn
  rw [hA, hfl] at hmn hnm
  have hsq : sqn ⟨(n : Int), 2, 0, kword p (s.seq + 1) 0⟩ = s.seq + 1 := sqn_kword hp ⟨by omega, hq⟩
  refine h.upd (n := n) (y' := ⟨(n : Int), 2, 0, kword p (s.seq + 1) 0⟩) (by show s.jobs.set _ _ = _; rw [Int.toNat_natCast]) hn wf ⟨by simp, fun q => by cases q⟩ ?_ ?_ hfn.2 ?_ ?_ ?_ (fun i hi c => Iff.rfl) ?_ (by show s.seq ≤ s.seq + 1; omega) ?_ ?_
  · intro i hi
    show (i : Int) ∈ f ↔ _
    rw [hf, List.mem_cons]
    constructor
    · exact .inr
    · rintro (q | q)
      · exact absurd (Int.ofNat.inj q) hi
      · exact q
  · show (2 : Int) = 1 ↔ (n : Int) ∈ f
    exact ⟨fun q => by omega, fun q => absurd q hfn.1⟩
  · intro i hi
    show (i : Int) ∈ (s.mail.set hh (box ++ [(n : Int)])).flatten ↔ _
    rw [hset, hfl2, hp2.mem_iff, hA, hfl, List.mem_cons]
    constructor
    · rintro (q | q)
      · exact absurd (Int.ofNat.inj q) hi
      · exact q
    · exact .inr
  · show (2 : Int) = 2 ↔ (n : Int) ∈ (s.mail.set hh (box ++ [(n : Int)])).flatten
    rw [hset, hfl2, hp2.mem_iff]
    simp
  · show (s.mail.set hh (box ++ [(n : Int)])).flatten.Nodup
    rw [hset, hfl2, hp2.nodup_iff, List.nodup_cons]
    exact ⟨hnm, hmn⟩
  · intro c
    show s.runs[c]? = some (n : Int) ↔ (2 : Int) = 4 ∧ (0 : Int) = (c : Int)
    rw [h.ru n y hy c, hst]
    constructor
    · rintro ⟨q, _⟩; omega
    · rintro ⟨q, _⟩; omega
  · intro _
    rw [hsq]
    exact ⟨by omega, Int.le_refl _⟩
  · intro _ j z hj hz hs he
    rw [hsq] at he
    have := (h.ky j z hz hs).2
    omega
/-! ### balanced, or somebody is told -/
def Jb (s : Ms) : Prop := true ∈ s.flags ∨ rdy s.jobs = [] ∨ ∀ w ∈ s.words, ∀ z ∈ rdy s.jobs, w ≤ z.key
theorem Jb.bal {s s' : Ms} (h : s.Wf) (b : Bal s s') : Jb s' := by
  rcases b with ⟨h0, rfl⟩ | ⟨z, c, w, hz, hm, hw, rfl⟩
  · exact .inr (.inl h0)
  · split
    · next hle =>
      refine .inr (.inr fun w' hw' z' hz' => ?_)
      obtain ⟨w2, h1, h2, h3⟩ := hm
      rw [hw] at h1
      cases h1
      obtain ⟨j, hj⟩ := List.getElem?_of_mem hw'
      have := h2 j w' hj
      have hl := hz.2 z' hz'
      unfold Lv.lt at hl
      omega
    · left
      show true ∈ s.flags.set c true
      have hc : c < s.flags.length := by
        have h1 := (List.getElem?_eq_some_iff.1 hw).1
        have h2 : s.words.length = s.runs.length := List.length_map ..
        have := h.rl
        have := h.gl
        omega
      exact List.mem_of_getElem? (i := c) (by rw [List.getElem?_set]; simp [hc])
theorem PickR.jb {s s' : Ms} {c : Nat} {r e : Int} (h : InvB s) (hr : s.runs[c]? = some (-1)) (p : PickR s c r e s') : Jb s' := by
  rcases p with ⟨i, h1, h2, rfl, rfl, rfl⟩ | ⟨h1, h2, rfl, rfl, rfl⟩ | ⟨z, h1, hz, rfl, rfl, hb⟩
  · rw [hr] at h1; cases h1; exact absurd rfl h2
  · exact .inr (.inl h2)
  · exact .bal (h.wf.claim hz) hb
theorem PickR.inv {s s' : Ms} {c : Nat} {r e : Int} (h : InvB s) (p : PickR s c r e s') : InvB s' := by
  rcases p with ⟨i, h1, h2, rfl, rfl, rfl⟩ | ⟨h1, h2, rfl, rfl, rfl⟩ | ⟨z, h1, hz, rfl, rfl, hb⟩
  · exact h
  · exact h
  · exact (h.claim h1 hz).bal hb
theorem TakeR.inv {s s' : Ms} {c : Nat} {r e : Int} (h : InvB s) (p : TakeR s c r e s') : InvB s' := by
  rcases p with ⟨h1, rfl, rfl, rfl⟩ | ⟨i, l, y, h1, h2, rfl, rfl, hb⟩
  · exact h
  · exact (h.takes h1 h2).bal hb
theorem EndR.inv {s s' : Ms} {c : Nat} {r e : Int} (h : InvB s) (p : EndR s c r e s') : InvB s' := by
  rcases p with ⟨h1, rfl, rfl, rfl⟩ | ⟨i, y, h1, h2, h3, rfl, rfl, hb⟩
  · exact h
  · obtain ⟨n, rfl, y', hy', _⟩ := h.wf.run h1 h2
    rw [Int.toNat_natCast, hy'] at h3
    cases h3
    exact (h.ends h1 hy').bal hb
theorem ThenPick.inv {s s' : Ms} {c : Nat} {r e : Int} (h : InvB s) (p : ThenPick s c r e s') : InvB s' := by
  obtain ⟨_, _, hp, _⟩ := p
  exact hp.inv h
theorem ServeR.inv {s s' : Ms} {c : Nat} {r e : Int} (h : InvB s) (p : ServeR s c r e s') : InvB s' := by
  rcases p with ⟨h1, rfl, rfl, rfl⟩ | ⟨h1, h2, hp⟩ | ⟨i, y, h1, h2, h3, h4, ⟨h5, rfl, rfl, rfl⟩ | ⟨h5, hp⟩⟩
  · exact h
  · exact hp.inv h.drops
  · exact h.drops
  · obtain ⟨n, rfl, y', hy', _⟩ := h.wf.run h2 h3
    rw [Int.toNat_natCast, hy'] at h4
    cases h4
    exact hp.inv (h.gives h2 hy' h5)
theorem RelR.inv {s s' : Ms} {t : Nat} {now r e : Int} (h : InvB s) (hnow : 0 ≤ now ∧ now ≤ 1099511627776) (hseq : s.seq < 1152921504606846976) (p : RelR s t now r e s') : InvB s' := by
  have wf' := (p.told h.wf hnow hseq).1
  obtain ⟨last, a, h1, h2, p⟩ := p
  have hab := tone_bd ((tchk_all h.wf.chk).2 a (List.mem_of_getElem? h2))
  rcases p with ⟨_, _, rfl, rfl, rfl⟩ | ⟨_, ⟨_, rfl, rfl, rfl⟩ | ⟨i, f, hf, ⟨_, rfl, rfl, rfl⟩ | ⟨h4, hh, box, h5, h6, ⟨_, rfl, rfl, rfl⟩ | ⟨h7, rfl, rfl, rfl⟩⟩⟩⟩
  · exact h
  · exact h.same wf' rfl rfl rfl rfl (Int.le_refl _)
  · exact h.same wf' rfl rfl rfl rfl (by show s.seq ≤ s.seq + 1; omega)
  · exact h.same wf' rfl rfl rfl rfl (by show s.seq ≤ s.seq + 1; omega)
  · exact h.rel hf h6 hab.1 h4 wf'
theorem OpR.inv {s s' : Ms} {kind at' now r e : Int} (h : InvB s) (hseq : s.seq < 1152921504606846976) (hf : mayAt s kind at' now) (p : OpR s kind at' now r e s') : InvB s' := by
  rcases p with ⟨hk, p⟩ | ⟨hk, p⟩ | ⟨hk, p⟩ | ⟨hk, p⟩ | ⟨hk, p⟩
  · exact p.inv h (hf.1 hk) hseq
  · exact p.inv h
  · exact p.inv h
  · exact p.inv h
  · exact p.inv h
theorem DoR.inv {s s' : Ms} {kind at' now r e : Int} (h : InvB s) (hseq : s.seq < 1152921504606846976) (p : DoR s kind at' now r e s') : InvB s' := by
  rcases p with ⟨_, rfl, rfl, rfl⟩ | ⟨_, _, rfl, rfl, rfl⟩ | ⟨_, hf, p⟩
  · exact h
  · exact h
  · exact p.inv h hseq hf
theorem mem_rdy {l : List Lv} {z : Lv} : z ∈ rdy l ↔ z ∈ l ∧ z.st = 3 := by unfold rdy; rw [List.mem_filter]; simp
theorem Jb.rel {s s' : Ms} (h : InvB s) (hJ : Jb s) {n : Nat} {y y' : Lv} (hy : s.jobs[n]? = some y) (h1 : y.st = 1) (h2 : y'.st = 2) (hj : s'.jobs = s.jobs.set n y') (hf : s'.flags = s.flags) (hr : s'.runs = s.runs) : Jb s' := by
  have hn := (List.getElem?_eq_some_iff.1 hy).1
  have hrd : ∀ z, z ∈ rdy s'.jobs → z ∈ rdy s.jobs := fun z hz => by
    obtain ⟨q1, q2⟩ := mem_rdy.1 hz
    rw [hj] at q1
    rcases List.mem_or_eq_of_mem_set q1 with q1 | rfl
    · exact mem_rdy.2 ⟨q1, q2⟩
    · omega
  have hw : s'.words = s.words := by
    unfold Ms.words
    rw [hr]
    apply List.map_congr_left
    intro i hi
    unfold Ms.word
    by_cases he : i = -1
    · rw [if_pos he, if_pos he]
    · rw [if_neg he, if_neg he, hj]
      obtain ⟨c, hc⟩ := List.getElem?_of_mem hi
      obtain ⟨q, rfl, z, hz, _⟩ := h.wf.run hc he
      have hne : n ≠ q := by
        rintro rfl
        have := (h.runs hc hy).1
        omega
      rw [Int.toNat_natCast, List.getElem?_set, if_neg hne]
  rcases hJ with q | q | q
  · exact .inl (by rw [hf]; exact q)
  · refine .inr (.inl ?_)
    cases hl : rdy s'.jobs with
    | nil => rfl
    | cons z l =>
      have := hrd z (by rw [hl]; exact List.mem_cons_self ..)
      rw [q] at this; cases this
  · exact .inr (.inr fun w hw' z hz => q w (by rw [← hw]; exact hw') z (hrd z hz))
theorem Jb.same {s s' : Ms} (hJ : Jb s) (h1 : s'.jobs = s.jobs) (h2 : s'.flags = s.flags) (h3 : s'.runs = s.runs) : Jb s' := by
  unfold Jb Ms.words Ms.word at *
  rw [h1, h2, h3]; exact hJ
theorem OpR.jb {s s' : Ms} {kind at' now r e : Int} (h : InvB s) (hJ : Jb s) (he : e ≠ 12) (p : OpR s kind at' now r e s') : Jb s' := by
  rcases p with ⟨hk, p⟩ | ⟨hk, p⟩ | ⟨hk, p⟩ | ⟨hk, p⟩ | ⟨hk, p⟩
  · obtain ⟨last, a, h1, h2, p⟩ := p
    rcases p with ⟨_, _, rfl, rfl, rfl⟩ | ⟨_, ⟨_, rfl, rfl, rfl⟩ | ⟨i, f, hf, ⟨_, rfl, rfl, rfl⟩ | ⟨h4, hh, box, h5, h6, ⟨_, rfl, rfl, rfl⟩ | ⟨h7, rfl, rfl, rfl⟩⟩⟩⟩
    · exact hJ
    · exact hJ.same rfl rfl rfl
    · exact hJ.same rfl rfl rfl
    · exact hJ.same rfl rfl rfl
    · have hib := h.wf.fb r (by rw [hf]; exact List.mem_cons_self ..)
      obtain ⟨n, rfl⟩ : ∃ n : Nat, r = (n : Int) := ⟨r.toNat, by omega⟩
      obtain ⟨y, hy, _⟩ := h.wf.job (i := n) (by omega)
      exact hJ.rel h hy ((h.fr n y hy).2 (by rw [hf]; exact List.mem_cons_self ..)) (y' := ⟨(n : Int), 2, 0, kword a.prio (s.seq + 1) 0⟩) rfl (by show s.jobs.set _ _ = _; rw [Int.toNat_natCast]) rfl rfl
  · rcases p with ⟨h1, rfl, rfl, rfl⟩ | ⟨i, l, y, h1, h2, rfl, rfl, hb⟩
    · exact hJ
    · exact .bal (h.wf.takes h1 h2) hb
  · rcases p with ⟨i, h1, h2, rfl, rfl, rfl⟩ | ⟨h1, h2, rfl, rfl, rfl⟩ | ⟨z, h1, hz, rfl, rfl, hb⟩
    · exact hJ
    · exact hJ
    · exact .bal (h.wf.claim hz) hb
  · rcases p with ⟨h1, rfl, rfl, rfl⟩ | ⟨h1, h2, _, _, hp, _⟩ | ⟨i, y, h1, h2, h3, h4, ⟨h5, rfl, rfl, rfl⟩ | ⟨h5, _, _, hp, _⟩⟩
    · exact hJ
    · exact hp.jb h.drops h2
    · exact absurd rfl he
    · obtain ⟨n, rfl, y', hy', _⟩ := h.wf.run h2 h3
      rw [Int.toNat_natCast, hy'] at h4
      cases h4
      refine hp.jb (h.gives h2 hy' h5) ?_
      show (s.runs.set _ (-1))[_]? = _
      rw [List.getElem?_set]
      simp [(List.getElem?_eq_some_iff.1 h2).1]
  · rcases p with ⟨h1, rfl, rfl, rfl⟩ | ⟨i, y, h1, h2, h3, rfl, rfl, hb⟩
    · exact hJ
    · obtain ⟨n, rfl, y', hy', hyj⟩ := h.wf.run h1 h2
      rw [Int.toNat_natCast, hy'] at h3
      cases h3
      exact .bal (h.wf.ends hy' hyj (h.room _ _ h1 h2)) hb
theorem DoR.jb {s s' : Ms} {kind at' now r e : Int} (h : InvB s) (hJ : Jb s) (he : e ≠ 12) (p : DoR s kind at' now r e s') : Jb s' := by
  rcases p with ⟨_, rfl, rfl, rfl⟩ | ⟨_, _, rfl, rfl, rfl⟩ | ⟨_, hf, p⟩
  · exact hJ
  · exact hJ
  · exact p.jb h hJ he
/-! ### what is new is so -/
theorem jobs0_get {n i : Nat} {y : Lv} (h : (jobs0 n)[i]? = some y) : i < n ∧ y = ⟨(i : Int), 1, 0, 0⟩ := by
  unfold jobs0 at h
  rw [List.getElem?_map] at h
  cases hr : (List.range n)[i]? with
  | none => rw [hr] at h; cases h
  | some a =>
    rw [hr] at h
    cases h
    obtain ⟨h1, h2⟩ := List.getElem?_eq_some_iff.1 hr
    rw [List.getElem_range] at h2
    subst h2
    rw [List.length_range] at h1
    exact ⟨h1, rfl⟩
theorem mem_free0 {n : Nat} {i : Int} : i ∈ free0 n ↔ 0 ≤ i ∧ i < n := by
  unfold free0
  rw [List.mem_map]
  constructor
  · rintro ⟨a, ha, rfl⟩
    have := List.mem_range.1 ha
    omega
  · rintro ⟨h1, h2⟩
    exact ⟨i.toNat, List.mem_range.2 (by omega), by omega⟩
theorem flat_nil {n : Nat} : (List.replicate n ([] : List Int)).flatten = [] := by
  induction n with
  | zero => rfl
  | succ n ih => rw [List.replicate_succ, List.flatten_cons, ih]; rfl
theorem InvB.init {su : Su} {l : List Tk} (h : su.chk l = 0) : InvB (Ms.init su l) := by
  have hfine : su.fine ∧ tchk l = 0 := by
    unfold Su.chk at h
    split at h
    · next hf =>
      split at h
      · next hne => exact absurd h hne
      · next hz => exact ⟨hf, by omega⟩
    · cases h
  have hfi := hfine.1
  unfold Su.fine at hfi
  refine ⟨⟨hfine.1, hfine.2, ?_, ?_, ?_, ?_, ?_, ?_, ?_, ?_, ?_, ?_, ?_, ?_, ?_⟩, ?_, ?_, ?_, ?_, ?_, ?_, ?_, ?_⟩
  · show (List.replicate l.length (-1 : Int)).length = l.length; simp
  · intro p hp
    rw [(List.mem_replicate.1 hp).2]; omega
  · show ((jobs0 su.jobs.toNat).length : Int) = su.jobs; rw [jobs0_len]; omega
  · intro i y hy
    rw [(jobs0_get hy).2]
  · intro y hy
    obtain ⟨i, hi⟩ := List.getElem?_of_mem hy
    rw [(jobs0_get hi).2]; simp
  · show (free0 su.jobs.toNat).length ≤ (jobs0 su.jobs.toNat).length; rw [free0_len, jobs0_len]; omega
  · intro i hi
    have := mem_free0.1 hi
    show 0 ≤ i ∧ i < ((jobs0 su.jobs.toNat).length : Int)
    rw [jobs0_len]; exact this
  · show ((List.replicate su.cores.toNat ([] : List Int)).length : Int) = su.cores; rw [List.length_replicate]; omega
  · intro q hq
    rw [(List.mem_replicate.1 hq).2]
    exact ⟨by show (0 : Int) ≤ su.room; omega, fun i hi => by cases hi⟩
  · show ((List.replicate su.cores.toNat (-1 : Int)).length : Int) = su.cores; rw [List.length_replicate]; omega
  · intro i hi
    rw [(List.mem_replicate.1 hi).2]; omega
  · show ((List.replicate su.cores.toNat false).length : Int) = su.cores; rw [List.length_replicate]; omega
  · exact ⟨Int.le_refl _, by show (0 : Int) ≤ _; omega⟩
  · intro i y hy
    rw [(jobs0_get hy).2]; simp
  · intro i y hy
    obtain ⟨h1, rfl⟩ := jobs0_get hy
    show (1 : Int) = 1 ↔ (i : Int) ∈ free0 su.jobs.toNat
    rw [mem_free0]
    exact ⟨fun _ => by omega, fun _ => rfl⟩
  · intro i y hy
    obtain ⟨h1, rfl⟩ := jobs0_get hy
    show (1 : Int) = 2 ↔ (i : Int) ∈ (List.replicate su.cores.toNat ([] : List Int)).flatten
    rw [flat_nil]; simp
  · intro i y hy c
    obtain ⟨h1, rfl⟩ := jobs0_get hy
    constructor
    · intro q
      have := (List.mem_replicate.1 (List.mem_of_getElem? q)).2
      omega
    · rintro ⟨q, _⟩
      have q : (1 : Int) = 4 := q
      omega
  · show (free0 su.jobs.toNat).Nodup
    unfold free0
    rw [List.nodup_iff_pairwise_ne, List.pairwise_map]
    have := @List.nodup_range su.jobs.toNat
    rw [List.nodup_iff_pairwise_ne] at this
    exact this.imp fun h q => h (Int.ofNat.inj q)
  · show (List.replicate su.cores.toNat ([] : List Int)).flatten.Nodup
    rw [flat_nil]; exact List.nodup_nil
  · intro i y hy hs
    obtain ⟨_, rfl⟩ := jobs0_get hy
    exact absurd rfl hs
  · intro i j y z hy hz hs
    obtain ⟨_, rfl⟩ := jobs0_get hy
    exact absurd rfl hs
theorem Jb.init {su : Su} {l : List Tk} : Jb (Ms.init su l) := by
  refine .inr (.inl ?_)
  cases hl : rdy (Ms.init su l).jobs with
  | nil => rfl
  | cons z r =>
    have := mem_rdy.1 (show z ∈ rdy (Ms.init su l).jobs by rw [hl]; exact List.mem_cons_self ..)
    obtain ⟨i, hi⟩ := List.getElem?_of_mem this.1
    have h2 := this.2
    rw [(jobs0_get hi).2] at h2
    have h2 : (1 : Int) = 3 := h2
    omega
end Go.Abs
