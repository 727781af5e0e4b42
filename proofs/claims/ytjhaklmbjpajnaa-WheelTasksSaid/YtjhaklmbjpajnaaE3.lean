/- functions of this cut: what they compute, in the abstract machine. Conditions: stated in each theorem -/
import Derived.Test.YtjhaklmbjpajnaaE2
set_option linter.unusedVariables false
set_option linter.unusedSimpArgs false
namespace Go.Abs
open Go.Proofs
set_option maxRecDepth 100000
set_option linter.unusedVariables false
theorem wp_mkslice1 {M : Mach} {B0 S : AH} {W : List Nat} {own : List Own} {ro : List Fct} {Q : Post} {k : AV → AC} (H : Cx B0 W S own ro) {z : AV} {bytes n : Nat} (hb : bytes * n ≤ 140737488355328) (hn : n ≤ 9223372036854775807)
    (h : ∀ t S1, Cx B0 W S1 (.sl t 1 (List.replicate n [z]) :: own) ro → wp M (k t) S1 Q) : wp M (.op (.mkslice 1 bytes [z] (I (n : Int)) (I (n : Int))) k) S Q := by
  have hz : ∀ m : Nat, repZero [z] m = List.replicate m z := by
    intro m
    induction m with
    | zero => rfl
    | succ m ih =>
      show appL [z] (repZero [z] m) = _
      rw [ih, appL_eq]; rfl
  have hnat : nat? (n : Int) = some n := by
    unfold nat?
    rfl
  refine wp_op (v := .sl S.next 0 n n) (S1 := S.new (.row (List.replicate n z))) ?_ (h _ _ (H.addOwn (Grows.new S _) (.inr ⟨S.next, 0, List.replicate n z, .inl ⟨n, by simp, by simp, by simp⟩, get_new_same _ _, ?_, ?_⟩) ?_))
  · show nMkslice 1 bytes [z] (I (n : Int)) (I (n : Int)) S = _
    unfold nMkslice
    simp only [asInt, vInt, hnat]
    have e : (Nat.ble n n && Nat.ble (Nat.mul bytes n) 140737488355328 && Nat.ble n 9223372036854775807 && Nat.beq (lenL [z]) 1) = true := by
      have hb' : Nat.ble (Nat.mul bytes n) 140737488355328 = true := ble_t hb
      rw [ble_t (Nat.le_refl n), hb', ble_t hn]; rfl
    rw [e, hz]
    rfl
  · have : ∀ m : Nat, (List.replicate m [z]).flatten = List.replicate m z := by
      intro m
      induction m with
      | zero => rfl
      | succ m ih => rw [List.replicate_succ, List.flatten_cons, ih]; rfl
    rw [this]; simp
  · intro x hx
    rw [(List.mem_replicate.1 hx).2]; rfl
  · intro j hj
    simp only [Own.ids, vids, List.mem_singleton] at hj
    subst hj
    simp
/-! ### levels -/
theorem lev_le_of {n a l : Nat} (h : a / 16 ^ (l + 1) = n / 16 ^ (l + 1)) : lev n a ≤ l := by
  rcases Nat.lt_or_ge l (lev n a) with hl | hl
  · exact absurd (div_pow_mono (show l + 1 ≤ lev n a by omega) h) (lev_lo (by omega))
  · exact hl
theorem lev_falls {n m a : Nat} (h1 : n ≤ m) (h2 : m ≤ a) : lev m a ≤ lev n a := by
  refine lev_le_of ?_
  have h := lev_hi n a
  have h3 := Nat.div_le_div_right (c := 16 ^ (lev n a + 1)) h1
  have h4 := Nat.div_le_div_right (c := 16 ^ (lev n a + 1)) h2
  omega
theorem slo_above {n a : Nat} (hle : n ≤ a) (hne : a ≠ n) : n / 16 ^ lev n a % 16 < slo n a := by
  have h := lev_hi n a
  rw [Nat.pow_succ, ← Nat.div_div_eq_div_mul, ← Nat.div_div_eq_div_mul] at h
  have h2 : n / 16 ^ lev n a < a / 16 ^ lev n a := by
    rcases Nat.eq_zero_or_pos (lev n a) with h0 | h0
    · rw [h0]; simp; omega
    · exact lev_gt hle h0
  unfold slo
  omega
/-- how many stand below a level -/
def cntB (x : Wl) (k : Nat) : Nat := (x.L.filter fun f => decide (lev x.now f.tm < k)).length
theorem cntB_succ (x : Wl) (k : Nat) : cntB x (k + 1) = cntB x k + (x.L.filter fun f => (lev x.now f.tm : Int) == (k : Int)).length := by
  unfold cntB
  generalize x.L = L
  induction L with
  | nil => rfl
  | cons f r ih =>
    by_cases h1 : lev x.now f.tm < k
    · rw [List.filter_cons_of_pos (by simp; omega), List.filter_cons_of_pos (by simpa using h1), List.filter_cons_of_neg (by simp; omega)]
      simp only [List.length_cons]; omega
    · by_cases h2 : lev x.now f.tm = k
      · rw [List.filter_cons_of_pos (by simp; omega), List.filter_cons_of_neg (by simpa using h1), List.filter_cons_of_pos (by simp; omega)]
        simp only [List.length_cons]; omega
      · rw [List.filter_cons_of_neg (by simp; omega), List.filter_cons_of_neg (by simpa using h1), List.filter_cons_of_neg (by simp; omega)]
        omega
theorem cntB_all {x : Wl} (h : x.Ok) : cntB x 11 = x.L.length := by
  unfold cntB
  rw [List.filter_eq_self.2 fun f hf => ?_]
  have h1 := h.le f hf
  have h2 := h.clk
  have := lev_le (now := x.now) (a := f.tm) (by omega) (by omega)
  simp; omega
section
variable {B0 S : AH} {W : List Nat} {own E R : List Own} {ro : List Fct} {Q : Post} {k : AV → AC} {w : Nat} {x : Wl} {blk : List Own}
/-- what was seen of each timer's level -/
def WasOk (x : Wl) (n : Nat) (wv : List Int) : Prop := wv.length = n ∧ ∀ id, id < n → ∃ a : Int, wv[id]? = some a ∧ ∀ f, fnd x.L (id : Int) = some f → (lev x.now f.tm : Int) ≤ a
theorem wheelFalls_ok {S : AH} {v v' : AV} {l l' : List Int} {now : Int} (hv : RoSl S v 1 (ints l)) (hv' : RoSl S v' 1 (ints l')) : wpC EM (.fn (.func 7) [] []) [I now, v, v'] S fun r _ => r = B true := by
  refine wpC_fn (b := Try.a7) rfl rfl ?_
  have H := Cx.ro2 hv hv'
  unfold Try.a7
  refine wp_call (wpC_mono (known_ok H) fun r S1 ⟨hr, H⟩ => ?_)
  subst hr
  refine wp_len H (by repeat (first | exact List.Mem.head _ | apply List.Mem.tail)) ?_
  rw [ints_len]
  refine wp_gtr (fun hbig => ?_) (fun hsm => ?_)
  · repeat (first|refine zA ?_|refine zB rfl ?_|refine zC ?_|refine zD ?_|refine zE rfl ?_|refine zF ?_|refine zG ?_|refine zH ?_|refine zI ?_|refine zJ ?_|refine zK ?_|refine zL rfl ?_|refine zN rfl ?_)
    exact wp_ret ⟨rfl, rfl⟩
  repeat (first|refine zA ?_|refine zB rfl ?_|refine zC ?_|refine zD ?_|refine zE rfl ?_|refine zF ?_|refine zG ?_|refine zH ?_|refine zI ?_|refine zJ ?_|refine zK ?_|refine zL rfl ?_|refine zN rfl ?_)
  refine wp_len H (by repeat (first | exact List.Mem.head _ | apply List.Mem.tail)) ?_
  rw [ints_len]
  repeat (first|refine zA ?_|refine zB rfl ?_|refine zC ?_|refine zD ?_|refine zE rfl ?_|refine zF ?_|refine zG ?_|refine zH ?_|refine zI ?_|refine zJ ?_|refine zK ?_|refine zL rfl ?_|refine zN rfl ?_)
  refine wp_gtr (fun hbig2 => ?_) (fun hsm2 => ?_)
  · try unfold Try.a7x25
    repeat (first|refine zA ?_|refine zB rfl ?_|refine zC ?_|refine zD ?_|refine zE rfl ?_|refine zF ?_|refine zG ?_|refine zH ?_|refine zI ?_|refine zJ ?_|refine zK ?_|refine zL rfl ?_|refine zN rfl ?_)
    exact wp_ret ⟨rfl, rfl⟩
  try unfold Try.a7x25
  repeat (first|refine zA ?_|refine zB rfl ?_|refine zC ?_|refine zD ?_|refine zE rfl ?_|refine zF ?_|refine zG ?_|refine zH ?_|refine zI ?_|refine zJ ?_|refine zK ?_|refine zL rfl ?_|refine zN rfl ?_)
  refine wp_Pick H (by omega) fun S2 H => ?_
  have hp := pick_bd (a := now) (n := 549755813888) (by omega)
  generalize pick now 549755813888 = n0 at hp
  obtain ⟨n0, rfl⟩ : ∃ q : Nat, n0 = (q : Int) := ⟨n0.toNat, by omega⟩
  refine wp_call (wpC_mono (new_ok H) fun r S3 q => ?_)
  rcases q with ⟨_, w, blk, rfl, h, H⟩ | ⟨hn, _⟩
  rotate_left
  · exact absurd ⟨by omega, by omega⟩ hn
  have h : WRep w ⟨n0, []⟩ blk := h
  repeat (first|refine zA ?_|refine zB rfl ?_|refine zC ?_|refine zD ?_|refine zE rfl ?_|refine zF ?_|refine zG ?_|refine zH ?_|refine zI ?_|refine zJ ?_|refine zK ?_|refine zL rfl ?_|refine zN rfl ?_)
  try unfold Try.a7x24
  repeat (first|refine zA ?_|refine zB rfl ?_|refine zC ?_|refine zD ?_|refine zE rfl ?_|refine zF ?_|refine zG ?_|refine zH ?_|refine zI ?_|refine zJ ?_|refine zK ?_|refine zL rfl ?_|refine zN rfl ?_)
  refine wp_neq_f rfl ?_
  repeat (first|refine zA ?_|refine zB rfl ?_|refine zC ?_|refine zD ?_|refine zE rfl ?_|refine zF ?_|refine zG ?_|refine zH ?_|refine zI ?_|refine zJ ?_|refine zK ?_|refine zL rfl ?_|refine zN rfl ?_)
  refine wp_ptrNil typW ?_
  repeat (first|refine zA ?_|refine zB rfl ?_|refine zC ?_|refine zD ?_|refine zE rfl ?_|refine zF ?_|refine zG ?_|refine zH ?_|refine zI ?_|refine zJ ?_|refine zK ?_|refine zL rfl ?_|refine zN rfl ?_)
  try unfold Try.a7x23
  refine wp_len H (by repeat (first | exact List.Mem.head _ | apply List.Mem.tail)) ?_
  rw [ints_len]
  refine wp_mkslice1 (z := I 0) H (by omega) (by omega) fun vw S4 H => ?_
  have ez : List.replicate l.length [I 0] = ints (List.replicate l.length 0) := by unfold ints; simp
  rw [ez] at H
  -- the timers are set
  refine wp_bind ?_
  refine wp_loop (wpL_inv (fun m vs S1 => ∃ (i : Nat) (x : Wl) (blk : List Own) (wv : List Int), vs = [I (i : Int), B false] ∧ i ≤ l.length ∧ m = l.length - i ∧ WRep w x blk ∧ x.now = n0 ∧ wv.length = l.length ∧ (∀ j, j < i → wv[j]? = some 10) ∧ Cx S [] S1 (.sl vw 1 (ints wv) :: (blk ++ [])) [.sl v 1 (ints l), .sl v' 1 (ints l')]) ?_ l.length
    ⟨0, ⟨n0, []⟩, blk, List.replicate l.length 0, rfl, by omega, by omega, h, rfl, by simp, by intro j hj; omega, H⟩)
  clear H h
  rintro m vs S5 ⟨i, x, blk, wv, rfl, hi, rfl, h, hnow, hwl, hw10, H⟩
  try unfold Try.a7x3
  refine wp_len H (by repeat (first | exact List.Mem.head _ | apply List.Mem.tail)) ?_
  rw [ints_len]
  refine wp_lss (fun hlt => ?_) (fun hge => ?_)
  · have hlt : i < l.length := by omega
    repeat (first|refine zA ?_|refine zB rfl ?_|refine zC ?_|refine zD ?_|refine zE rfl ?_|refine zF ?_|refine zG ?_|refine zH ?_|refine zI ?_|refine zJ ?_|refine zK ?_|refine zL rfl ?_|refine zN rfl ?_)
    refine wp_bind ?_
    try unfold Try.a7x1
    refine wp_saddr (v := v) (L := ints l) (i := i) (x := [I l[i]]) H (by repeat (first | exact List.Mem.head _ | apply List.Mem.tail)) (by simp [ints, hlt]) fun q1 o1 H1 => ?_
    refine wp_load0 H1 (by repeat (first | exact List.Mem.head _ | apply List.Mem.tail)) rfl ?_
    replace H := H1.tl
    refine wp_Pick H (by omega) fun S6 H => ?_
    have hp2 := pick_bd (a := l[i]) (n := 68719476736) (by omega)
    generalize pick l[i] 68719476736 = p at hp2
    refine wp_add64 (by omega) (by omega) ?_
    refine Tsk.wp_min ?_
    obtain ⟨t, ht⟩ : ∃ t : Nat, min 1099511627776 ((n0 : Int) + p) = (t : Int) := ⟨(min 1099511627776 ((n0 : Int) + p)).toNat, by omega⟩
    rw [ht]
    have hz2 : setE x (i : Int) (t : Int) = 0 := by
      unfold setE
      rw [if_neg (by omega), if_neg (by omega)]
    refine wp_Set (E := [.sl vw 1 (ints wv)]) (e := 0) (y := x.put ⟨i, t⟩) hz2 (by unfold setX; rw [if_pos hz2]; rfl) h H fun S8 blk2 h2 H2 => ?_
    try unfold Try.a7x0
    refine wp_neq_f rfl ?_
    repeat (first|refine zA ?_|refine zB rfl ?_|refine zC ?_|refine zD ?_|refine zE rfl ?_|refine zF ?_|refine zG ?_|refine zH ?_|refine zI ?_|refine zJ ?_|refine zK ?_|refine zL rfl ?_|refine zN rfl ?_)
    refine wp_storeE (i := i) (y := I 10) H2 0 rfl (by rw [ints_len, hwl]; exact hlt) rfl rfl fun S9 H3 => ?_
    have H4 : Cx S [] S9 (.sl vw 1 ((ints wv).set i [I 10]) :: (blk2 ++ [])) [.sl v 1 (ints l), .sl v' 1 (ints l')] := H3
    rw [ints_set] at H4
    refine wp_ret ?_
    show wp EM _ _ _
    try unfold Try.a7x2
    refine wp_add64 (by omega) (by omega) (wp_ret (.inl ⟨rfl, l.length - (i + 1), by omega, i + 1, x.put ⟨i, t⟩, blk2, wv.set i 10, rfl, by omega, rfl, h2, hnow, by simpa using hwl, fun j hj => ?_, H4⟩))
    rw [List.getElem?_set]
    by_cases e : i = j
    · rw [if_pos e, if_pos (by omega)]
    · rw [if_neg e]; exact hw10 j (by omega)
  have : i = l.length := by omega
  subst this
  repeat (first|refine zA ?_|refine zB rfl ?_|refine zC ?_|refine zD ?_|refine zE rfl ?_|refine zF ?_|refine zG ?_|refine zH ?_|refine zI ?_|refine zJ ?_|refine zK ?_|refine zL rfl ?_|refine zN rfl ?_)
  refine wp_ret (.inr ⟨by simp, ?_⟩)
  show wp EM _ _ _
  have hW0 : WasOk x l.length wv := by
    refine ⟨hwl, fun id hid => ⟨10, hw10 id hid, fun f hf => ?_⟩⟩
    have h1 := h.ok.le f (fnd_mem hf).1
    have h2 := h.ok.clk
    have := lev_le (now := x.now) (a := f.tm) (by omega) (by omega)
    omega
  clear hw10 hwl
  refine wp_bind ?_
  try unfold Try.a7x22
  refine wp_loop (wpL_inv (fun m vs S1 => ∃ (i : Nat) (x : Wl) (blk : List Own) (wv : List Int) (u1 u2 u3 : AV), vs = [I (i : Int), I (x.now : Int), u1, B false, u2, u3] ∧ i ≤ l'.length + 1 ∧ m = l'.length + 1 - i ∧ WRep w x blk ∧ WasOk x l.length wv ∧ Cx S [] S1 (.sl vw 1 (ints wv) :: (blk ++ [])) [.sl v 1 (ints l), .sl v' 1 (ints l')]) ?_ (l'.length + 1)
    ⟨0, x, blk, wv, .no, .no, .no, by rw [hnow]; rfl, by omega, by omega, h, hW0, H⟩)
  clear H h hW0 hnow
  clear x blk wv
  rintro m vs S6 ⟨i, x, blk, wv, u1, u2, u3, rfl, hi, rfl, h, hW, H⟩
  have hclk := h.ok.clk
  have hlen := h.ok.len
  refine wp_len H (by repeat (first | exact List.Mem.head _ | apply List.Mem.tail)) ?_
  rw [ints_len]
  refine wp_leq (fun hle => ?_) (fun hgt => ?_)
  rotate_left
  · repeat (first|refine zA ?_|refine zB rfl ?_|refine zC ?_|refine zD ?_|refine zE rfl ?_|refine zF ?_|refine zG ?_|refine zH ?_|refine zI ?_|refine zJ ?_|refine zK ?_|refine zL rfl ?_|refine zN rfl ?_)
    refine wp_ret (.inr ⟨by simp, ?_⟩)
    show wp EM _ _ _
    exact wp_ret ⟨rfl, rfl⟩
  repeat (first|refine zA ?_|refine zB rfl ?_|refine zC ?_|refine zD ?_|refine zE rfl ?_|refine zF ?_|refine zG ?_|refine zH ?_|refine zI ?_|refine zJ ?_|refine zK ?_|refine zL rfl ?_|refine zN rfl ?_)
  try unfold Try.a7x21
  -- a round: what it leaves
  have round : wp EM (.bind ((Try.a7x5 (.ptr w 0))) (some 4) (fun v22 => (Try.a7x20 [I now, v, v'] (.ptr w 0) vw [I (i : Int), I (x.now : Int), u1, B false, u2, u3] v22)) (fun v22 => [(nth [I (i : Int), I (x.now : Int), u1, B false, u2, u3] 1), (nth [I (i : Int), I (x.now : Int), u1, B false, u2, u3] 2), (nth [I (i : Int), I (x.now : Int), u1, B false, u2, u3] 3), (nth v22 0), (nth v22 1)])) S6
      fun t vs S' => t = .normal ∧ ∃ (y : Wl) (blk' : List Own) (wv : List Int) (u1 u2 u3 : AV), vs = [I (y.now : Int), u1, B false, u2, u3] ∧ WRep w y blk' ∧ WasOk y l.length wv ∧ Cx S [] S' (.sl vw 1 (ints wv) :: (blk' ++ [])) [.sl v 1 (ints l), .sl v' 1 (ints l')] := by
    refine wp_bind ?_
    try unfold Try.a7x5
    refine wp_loop (wpL_inv (fun m vs S1 => ∃ (k : Nat), vs = [I (k : Int), I (cntB x k : Int)] ∧ k ≤ 11 ∧ m = 11 - k ∧ Cx S [] S1 (.sl vw 1 (ints wv) :: (blk ++ [])) [.sl v 1 (ints l), .sl v' 1 (ints l')]) ?_ 11 ⟨0, by
      have : cntB x 0 = 0 := by unfold cntB; simp
      rw [this]; rfl, by omega, by omega, H⟩)
    clear H
    rintro m vs S7 ⟨k, rfl, hk, rfl, H⟩
    refine wp_leq (fun hk10 => ?_) (fun hk11 => ?_)
    · repeat (first|refine zA ?_|refine zB rfl ?_|refine zC ?_|refine zD ?_|refine zE rfl ?_|refine zF ?_|refine zG ?_|refine zH ?_|refine zI ?_|refine zJ ?_|refine zK ?_|refine zL rfl ?_|refine zN rfl ?_)
      try unfold Try.a7x4
      refine wp_bind ?_
      refine wp_call (wpC_mono (level_ok (E := [.sl vw 1 (ints wv)]) (l := (k : Int)) h H) fun u7 S8 H8 => ?_)
      refine wp_leno H8 0 rfl ?_
      rw [fis_len]
      have hs := cntB_succ x k
      have hb : cntB x (k + 1) ≤ x.L.length := List.length_filter_le ..
      refine wp_add64 (by omega) (by omega) (wp_ret ?_)
      show wp EM _ _ _
      refine wp_add64 (by omega) (by omega) (wp_ret (.inl ⟨rfl, 11 - (k + 1), by omega, k + 1, ?_, by omega, rfl, H8.dropAt 0⟩))
      have e : ((cntB x k : Nat) : Int) + ((x.L.filter fun f => (lev x.now f.tm : Int) == (k : Int)).length : Int) = (cntB x (k + 1) : Int) := by omega
      rw [← e]; rfl
    have : k = 11 := by omega
    subst this
    repeat (first|refine zA ?_|refine zB rfl ?_|refine zC ?_|refine zD ?_|refine zE rfl ?_|refine zF ?_|refine zG ?_|refine zH ?_|refine zI ?_|refine zJ ?_|refine zK ?_|refine zL rfl ?_|refine zN rfl ?_)
    refine wp_ret (.inr ⟨by simp, ?_⟩)
    show wp EM _ _ _
    try unfold Try.a7x20
    refine wp_call (wpC_mono (list_ok (E := [.sl vw 1 (ints wv)]) h H) fun u7 S8 H8 => ?_)
    refine wp_leno H8 0 rfl ?_
    rw [fis_len]
    refine wp_neq_f (by show ((cntB x 11 : Nat) : Int) = _; rw [cntB_all h.ok]) ?_
    repeat (first|refine zA ?_|refine zB rfl ?_|refine zC ?_|refine zD ?_|refine zE rfl ?_|refine zF ?_|refine zG ?_|refine zH ?_|refine zI ?_|refine zJ ?_|refine zK ?_|refine zL rfl ?_|refine zN rfl ?_)
    replace H8 := H8.dropAt 0
    refine wp_bind ?_
    try unfold Try.a7x16
    refine wp_loop (wpL_inv (fun m vs S1 => ∃ (id : Nat) (wv : List Int), vs = [I (id : Int), B false] ∧ id ≤ l.length ∧ m = l.length - id ∧ WasOk x l.length wv ∧ Cx S [] S1 (.sl vw 1 (ints wv) :: (blk ++ [])) [.sl v 1 (ints l), .sl v' 1 (ints l')]) ?_ l.length ⟨0, wv, rfl, by omega, by omega, hW, H8⟩)
    clear H H8 hW
    clear wv
    rintro m vs S9 ⟨id, wv, rfl, hid, rfl, hW, H⟩
    refine wp_len H (by repeat (first | exact List.Mem.head _ | apply List.Mem.tail)) ?_
    rw [ints_len]
    refine wp_lss (fun hlt => ?_) (fun hge2 => ?_)
    · have hlt : id < l.length := by omega
      repeat (first|refine zA ?_|refine zB rfl ?_|refine zC ?_|refine zD ?_|refine zE rfl ?_|refine zF ?_|refine zG ?_|refine zH ?_|refine zI ?_|refine zJ ?_|refine zK ?_|refine zL rfl ?_|refine zN rfl ?_)
      try unfold Try.a7x15
      refine wp_bind ?_
      refine wp_call (wpC_mono (at_ok (E := [.sl vw 1 (ints wv)]) (id := (id : Int)) h H) fun r S10 ⟨hr, H⟩ => ?_)
      subst hr
      obtain ⟨hwl, hwa⟩ := hW
      obtain ⟨a, hga, hle2⟩ := hwa id hlt
      unfold atR
      cases hq : fnd x.L (id : Int) with
      | none =>
        repeat (first|refine zA ?_|refine zB rfl ?_|refine zC ?_|refine zD ?_|refine zE rfl ?_|refine zF ?_|refine zG ?_|refine zH ?_|refine zI ?_|refine zJ ?_|refine zK ?_|refine zL rfl ?_|refine zN rfl ?_)
        try unfold Try.a7x14
        refine wp_Place (E := [.sl vw 1 (ints wv)]) (id := (id : Int)) (r := .tup [I 0, I 0, B false]) (by unfold placeR; rw [hq]) h H fun S11 H => ?_
        repeat (first|refine zA ?_|refine zB rfl ?_|refine zC ?_|refine zD ?_|refine zE rfl ?_|refine zF ?_|refine zG ?_|refine zH ?_|refine zI ?_|refine zJ ?_|refine zK ?_|refine zL rfl ?_|refine zN rfl ?_)
        refine wp_op (e_eqb undB) ?_
        have hbb : (if true = true then !(false == false) else (false == false)) = false := rfl
        rw [hbb]
        repeat (first|refine zA ?_|refine zB rfl ?_|refine zC ?_|refine zD ?_|refine zE rfl ?_|refine zF ?_|refine zG ?_|refine zH ?_|refine zI ?_|refine zJ ?_|refine zK ?_|refine zL rfl ?_|refine zN rfl ?_)
        try unfold Try.a7x13
        refine wp_op (v := B true) rfl ?_
        repeat (first|refine zA ?_|refine zB rfl ?_|refine zC ?_|refine zD ?_|refine zE rfl ?_|refine zF ?_|refine zG ?_|refine zH ?_|refine zI ?_|refine zJ ?_|refine zK ?_|refine zL rfl ?_|refine zN rfl ?_)
        refine wp_ret ?_
        show wp EM _ _ _
        exact wp_add64 (by omega) (by omega) (wp_ret (.inl ⟨rfl, l.length - (id + 1), by omega, id + 1, wv, rfl, by omega, rfl, ⟨hwl, hwa⟩, H⟩))
      | some f =>
        have hf := (fnd_mem hq).1
        have hge3 := h.ok.ge f hf
        have hle3 := h.ok.le f hf
        have hlev : lev x.now f.tm ≤ 10 := lev_le (by omega) (by omega)
        have hslo := slo_lt16 x.now f.tm
        have hhi := lev_hi x.now f.tm
        have hla := hle2 f hq
        repeat (first|refine zA ?_|refine zB rfl ?_|refine zC ?_|refine zD ?_|refine zE rfl ?_|refine zF ?_|refine zG ?_|refine zH ?_|refine zI ?_|refine zJ ?_|refine zK ?_|refine zL rfl ?_|refine zN rfl ?_)
        try unfold Try.a7x14
        refine wp_Place (E := [.sl vw 1 (ints wv)]) (id := (id : Int)) (r := .tup [I (lev x.now f.tm), I (slo x.now f.tm), B true]) (by unfold placeR; rw [hq]) h H fun S11 H => ?_
        repeat (first|refine zA ?_|refine zB rfl ?_|refine zC ?_|refine zD ?_|refine zE rfl ?_|refine zF ?_|refine zG ?_|refine zH ?_|refine zI ?_|refine zJ ?_|refine zK ?_|refine zL rfl ?_|refine zN rfl ?_)
        refine wp_op (e_eqb undB) ?_
        have hbb : (if true = true then !(true == true) else (true == true)) = false := rfl
        rw [hbb]
        repeat (first|refine zA ?_|refine zB rfl ?_|refine zC ?_|refine zD ?_|refine zE rfl ?_|refine zF ?_|refine zG ?_|refine zH ?_|refine zI ?_|refine zJ ?_|refine zK ?_|refine zL rfl ?_|refine zN rfl ?_)
        try unfold Try.a7x13
        refine wp_op (v := B false) rfl ?_
        repeat (first|refine zA ?_|refine zB rfl ?_|refine zC ?_|refine zD ?_|refine zE rfl ?_|refine zF ?_|refine zG ?_|refine zH ?_|refine zI ?_|refine zJ ?_|refine zK ?_|refine zL rfl ?_|refine zN rfl ?_)
        generalize hL : lev x.now f.tm = lv at *
        refine wp_lss_f (by omega) ?_
        repeat (first|refine zA ?_|refine zB rfl ?_|refine zC ?_|refine zD ?_|refine zE rfl ?_|refine zF ?_|refine zG ?_|refine zH ?_|refine zI ?_|refine zJ ?_|refine zK ?_|refine zL rfl ?_|refine zN rfl ?_)
        try unfold Try.a7x12
        repeat (first|refine zA ?_|refine zB rfl ?_|refine zC ?_|refine zD ?_|refine zE rfl ?_|refine zF ?_|refine zG ?_|refine zH ?_|refine zI ?_|refine zJ ?_|refine zK ?_|refine zL rfl ?_|refine zN rfl ?_)
        refine wp_saddro (i := id) H 0 rfl (ints_get hga) fun q1 o1 h1 => ?_
        repeat (first|refine zA ?_|refine zB rfl ?_|refine zC ?_|refine zD ?_|refine zE rfl ?_|refine zF ?_|refine zG ?_|refine zH ?_|refine zI ?_|refine zJ ?_|refine zK ?_|refine zL rfl ?_|refine zN rfl ?_)
        refine wp_loadF (j := 0) (cs := [I a]) h1 rfl ?_
        repeat (first|refine zA ?_|refine zB rfl ?_|refine zC ?_|refine zD ?_|refine zE rfl ?_|refine zF ?_|refine zG ?_|refine zH ?_|refine zI ?_|refine zJ ?_|refine zK ?_|refine zL rfl ?_|refine zN rfl ?_)
        refine wp_gtr_f (by omega) ?_
        repeat (first|refine zA ?_|refine zB rfl ?_|refine zC ?_|refine zD ?_|refine zE rfl ?_|refine zF ?_|refine zG ?_|refine zH ?_|refine zI ?_|refine zJ ?_|refine zK ?_|refine zL rfl ?_|refine zN rfl ?_)
        try unfold Try.a7x11
        repeat (first|refine zA ?_|refine zB rfl ?_|refine zC ?_|refine zD ?_|refine zE rfl ?_|refine zF ?_|refine zG ?_|refine zH ?_|refine zI ?_|refine zJ ?_|refine zK ?_|refine zL rfl ?_|refine zN rfl ?_)
        have hm4 : wrapF .i64 (4 * (lv : Int)) = ((4 * lv : Nat) : Int) := by rw [wrap64 (by omega) (by omega)]; omega
        have hm8 : wrapF .i64 (((4 * lv : Nat) : Int) + 4) = ((4 * lv + 4 : Nat) : Int) := by rw [wrap64 (by omega) (by omega)]; omega
        refine wp_mul (c := ((4 * lv : Nat) : Int)) hm4 ?_
        repeat (first|refine zA ?_|refine zB rfl ?_|refine zC ?_|refine zD ?_|refine zE rfl ?_|refine zF ?_|refine zG ?_|refine zH ?_|refine zI ?_|refine zJ ?_|refine zK ?_|refine zL rfl ?_|refine zN rfl ?_)
        refine wp_add (c := ((4 * lv + 4 : Nat) : Int)) hm8 ?_
        repeat (first|refine zA ?_|refine zB rfl ?_|refine zC ?_|refine zD ?_|refine zE rfl ?_|refine zF ?_|refine zG ?_|refine zH ?_|refine zI ?_|refine zJ ?_|refine zK ?_|refine zL rfl ?_|refine zN rfl ?_)
        refine wp_shrI (s := 4 * lv + 4) (by omega) (by omega) ?_
        repeat (first|refine zA ?_|refine zB rfl ?_|refine zC ?_|refine zD ?_|refine zE rfl ?_|refine zF ?_|refine zG ?_|refine zH ?_|refine zI ?_|refine zJ ?_|refine zK ?_|refine zL rfl ?_|refine zN rfl ?_)
        try unfold Try.a7x10
        repeat (first|refine zA ?_|refine zB rfl ?_|refine zC ?_|refine zD ?_|refine zE rfl ?_|refine zF ?_|refine zG ?_|refine zH ?_|refine zI ?_|refine zJ ?_|refine zK ?_|refine zL rfl ?_|refine zN rfl ?_)
        refine wp_mul (c := ((4 * lv : Nat) : Int)) hm4 ?_
        repeat (first|refine zA ?_|refine zB rfl ?_|refine zC ?_|refine zD ?_|refine zE rfl ?_|refine zF ?_|refine zG ?_|refine zH ?_|refine zI ?_|refine zJ ?_|refine zK ?_|refine zL rfl ?_|refine zN rfl ?_)
        refine wp_add (c := ((4 * lv + 4 : Nat) : Int)) hm8 ?_
        repeat (first|refine zA ?_|refine zB rfl ?_|refine zC ?_|refine zD ?_|refine zE rfl ?_|refine zF ?_|refine zG ?_|refine zH ?_|refine zI ?_|refine zJ ?_|refine zK ?_|refine zL rfl ?_|refine zN rfl ?_)
        refine wp_shrI (s := 4 * lv + 4) (by omega) (by omega) ?_
        repeat (first|refine zA ?_|refine zB rfl ?_|refine zC ?_|refine zD ?_|refine zE rfl ?_|refine zF ?_|refine zG ?_|refine zH ?_|refine zI ?_|refine zJ ?_|refine zK ?_|refine zL rfl ?_|refine zN rfl ?_)
        have ehi : f.tm / 2 ^ (4 * lv + 4) = x.now / 2 ^ (4 * lv + 4) := by
          rw [pow16] at hhi
          rw [show 4 * lv + 4 = 4 * (lv + 1) by omega]; exact hhi
        refine wp_neq_f (by rw [ehi]) ?_
        repeat (first|refine zA ?_|refine zB rfl ?_|refine zC ?_|refine zD ?_|refine zE rfl ?_|refine zF ?_|refine zG ?_|refine zH ?_|refine zI ?_|refine zJ ?_|refine zK ?_|refine zL rfl ?_|refine zN rfl ?_)
        try unfold Try.a7x9
        repeat (first|refine zA ?_|refine zB rfl ?_|refine zC ?_|refine zD ?_|refine zE rfl ?_|refine zF ?_|refine zG ?_|refine zH ?_|refine zI ?_|refine zJ ?_|refine zK ?_|refine zL rfl ?_|refine zN rfl ?_)
        refine wp_mul (c := ((4 * lv : Nat) : Int)) hm4 ?_
        repeat (first|refine zA ?_|refine zB rfl ?_|refine zC ?_|refine zD ?_|refine zE rfl ?_|refine zF ?_|refine zG ?_|refine zH ?_|refine zI ?_|refine zJ ?_|refine zK ?_|refine zL rfl ?_|refine zN rfl ?_)
        refine wp_shrI (s := 4 * lv) (by omega) (by omega) ?_
        repeat (first|refine zA ?_|refine zB rfl ?_|refine zC ?_|refine zD ?_|refine zE rfl ?_|refine zF ?_|refine zG ?_|refine zH ?_|refine zI ?_|refine zJ ?_|refine zK ?_|refine zL rfl ?_|refine zN rfl ?_)
        refine wp_rem (by omega) ?_
        have e16 : ∀ c : Nat, ((c / 2 ^ (4 * lv) : Nat) : Int).tmod 16 = ((c / 2 ^ (4 * lv) % 16 : Nat) : Int) := fun c => by rw [show (16 : Int) = ((16 : Nat) : Int) from rfl, Int.ofNat_tmod]
        rw [e16]
        repeat (first|refine zA ?_|refine zB rfl ?_|refine zC ?_|refine zD ?_|refine zE rfl ?_|refine zF ?_|refine zG ?_|refine zH ?_|refine zI ?_|refine zJ ?_|refine zK ?_|refine zL rfl ?_|refine zN rfl ?_)
        have eslo : slo x.now f.tm = f.tm / 2 ^ (4 * lv) % 16 := by unfold slo; rw [hL, pow16]
        refine wp_neq_f (by rw [eslo]) ?_
        try unfold Try.a7x8
        repeat (first|refine zA ?_|refine zB rfl ?_|refine zC ?_|refine zD ?_|refine zE rfl ?_|refine zF ?_|refine zG ?_|refine zH ?_|refine zI ?_|refine zJ ?_|refine zK ?_|refine zL rfl ?_|refine zN rfl ?_)
        have fin : ∀ S', Cx S [] S' (.sl vw 1 (ints wv) :: (blk ++ [])) [.sl v 1 (ints l), .sl v' 1 (ints l')] → ∀ (Q : Post), (∀ S' wv', WasOk x l.length wv' → Cx S [] S' (.sl vw 1 (ints wv') :: (blk ++ [])) [.sl v 1 (ints l), .sl v' 1 (ints l')] → Q .normal [B false] S') →
            wp EM (.op (.saddr 1 vw (I (id : Int))) fun v79 => .op (.store 1 v79 (I (lv : Int))) fun v80 => .ret .normal [B false]) S' Q := by
          intro S' H Q hq2
          refine wp_storeE (i := id) (y := I (lv : Int)) H 0 rfl (by rw [ints_len, hwl]; exact hlt) rfl rfl fun S12 H3 => ?_
          have H4 : Cx S [] S12 (.sl vw 1 ((ints wv).set id [I (lv : Int)]) :: (blk ++ [])) [.sl v 1 (ints l), .sl v' 1 (ints l')] := H3
          rw [ints_set] at H4
          refine wp_ret (hq2 _ _ ⟨by simpa using hwl, fun j hj => ?_⟩ H4)
          by_cases e : id = j
          · subst e
            refine ⟨(lv : Int), by rw [List.getElem?_set, if_pos rfl, if_pos (by omega)], fun g hg => ?_⟩
            rw [hq] at hg
            cases hg
            rw [hL]; omega
          · obtain ⟨b, hb1, hb2⟩ := hwa j hj
            exact ⟨b, by rw [List.getElem?_set, if_neg e]; exact hb1, hb2⟩
        refine wp_neq (fun hne => ?_) (fun heq => ?_)
        · have hab := slo_above hge3 (fun e => hne (by rw [e]))
          rw [hL, pow16] at hab
          repeat (first|refine zA ?_|refine zB rfl ?_|refine zC ?_|refine zD ?_|refine zE rfl ?_|refine zF ?_|refine zG ?_|refine zH ?_|refine zI ?_|refine zJ ?_|refine zK ?_|refine zL rfl ?_|refine zN rfl ?_)
          try unfold Try.a7x7
          repeat (first|refine zA ?_|refine zB rfl ?_|refine zC ?_|refine zD ?_|refine zE rfl ?_|refine zF ?_|refine zG ?_|refine zH ?_|refine zI ?_|refine zJ ?_|refine zK ?_|refine zL rfl ?_|refine zN rfl ?_)
          refine wp_mul (c := ((4 * lv : Nat) : Int)) hm4 ?_
          repeat (first|refine zA ?_|refine zB rfl ?_|refine zC ?_|refine zD ?_|refine zE rfl ?_|refine zF ?_|refine zG ?_|refine zH ?_|refine zI ?_|refine zJ ?_|refine zK ?_|refine zL rfl ?_|refine zN rfl ?_)
          refine wp_shrI (s := 4 * lv) (by omega) (by omega) ?_
          repeat (first|refine zA ?_|refine zB rfl ?_|refine zC ?_|refine zD ?_|refine zE rfl ?_|refine zF ?_|refine zG ?_|refine zH ?_|refine zI ?_|refine zJ ?_|refine zK ?_|refine zL rfl ?_|refine zN rfl ?_)
          refine wp_rem (by omega) ?_
          rw [e16]
          repeat (first|refine zA ?_|refine zB rfl ?_|refine zC ?_|refine zD ?_|refine zE rfl ?_|refine zF ?_|refine zG ?_|refine zH ?_|refine zI ?_|refine zJ ?_|refine zK ?_|refine zL rfl ?_|refine zN rfl ?_)
          refine wp_leq_f (by omega) ?_
          try unfold Try.a7x6
          repeat (first|refine zA ?_|refine zB rfl ?_|refine zC ?_|refine zD ?_|refine zE rfl ?_|refine zF ?_|refine zG ?_|refine zH ?_|refine zI ?_|refine zJ ?_|refine zK ?_|refine zL rfl ?_|refine zN rfl ?_)
          refine fin _ H _ fun S13 wv' hW' H' => ?_
          show wp EM _ _ _
          exact wp_add64 (by omega) (by omega) (wp_ret (.inl ⟨rfl, l.length - (id + 1), by omega, id + 1, wv', rfl, by omega, rfl, hW', H'⟩))
        · repeat (first|refine zA ?_|refine zB rfl ?_|refine zC ?_|refine zD ?_|refine zE rfl ?_|refine zF ?_|refine zG ?_|refine zH ?_|refine zI ?_|refine zJ ?_|refine zK ?_|refine zL rfl ?_|refine zN rfl ?_)
          try unfold Try.a7x7 Try.a7x6
          repeat (first|refine zA ?_|refine zB rfl ?_|refine zC ?_|refine zD ?_|refine zE rfl ?_|refine zF ?_|refine zG ?_|refine zH ?_|refine zI ?_|refine zJ ?_|refine zK ?_|refine zL rfl ?_|refine zN rfl ?_)
          try unfold Try.a7x6
          repeat (first|refine zA ?_|refine zB rfl ?_|refine zC ?_|refine zD ?_|refine zE rfl ?_|refine zF ?_|refine zG ?_|refine zH ?_|refine zI ?_|refine zJ ?_|refine zK ?_|refine zL rfl ?_|refine zN rfl ?_)
          refine fin _ H _ fun S13 wv' hW' H' => ?_
          show wp EM _ _ _
          exact wp_add64 (by omega) (by omega) (wp_ret (.inl ⟨rfl, l.length - (id + 1), by omega, id + 1, wv', rfl, by omega, rfl, hW', H'⟩))
    have : id = l.length := by omega
    subst this
    repeat (first|refine zA ?_|refine zB rfl ?_|refine zC ?_|refine zD ?_|refine zE rfl ?_|refine zF ?_|refine zG ?_|refine zH ?_|refine zI ?_|refine zJ ?_|refine zK ?_|refine zL rfl ?_|refine zN rfl ?_)
    refine wp_ret (.inr ⟨by simp, ?_⟩)
    show wp EM _ _ _
    try unfold Try.a7x19
    refine wp_len H (by repeat (first | exact List.Mem.head _ | apply List.Mem.tail)) ?_
    rw [ints_len]
    refine wp_lss (fun hlt3 => ?_) (fun hge3 => ?_)
    · have hlt3 : i < l'.length := by omega
      refine wp_bind (wp_ite_t ?_)
      try unfold Try.a7x18
      refine wp_saddr (v := v') (L := ints l') (i := i) (x := [I l'[i]]) H (by repeat (first | exact List.Mem.head _ | apply List.Mem.tail)) (by simp [ints, hlt3]) fun q1 o1 H1 => ?_
      refine wp_load0 H1 (by repeat (first | exact List.Mem.head _ | apply List.Mem.tail)) rfl ?_
      replace H := H1.tl
      refine wp_call (wpC_mono (near_ok H (now := x.now) hclk) fun r S10 ⟨⟨t, hr, ht1, ht2⟩, H⟩ => ?_)
      subst hr
      have hm : mayE x (t : Int) = 0 := by unfold mayE; rw [if_pos (by omega), if_neg (by omega)]
      refine wp_call (wpC_mono (tick_ok (E := [.sl vw 1 (ints wv)]) (to := (t : Int)) h H) fun r S11 ⟨f, blk2, hr, h2, H2⟩ => ?_)
      subst hr
      rw [hm]
      unfold tickX at h2
      rw [if_pos hm] at h2
      have h2 : WRep w ⟨t, leftL x (t : Int)⟩ blk2 := h2
      repeat (first|refine zA ?_|refine zB rfl ?_|refine zC ?_|refine zD ?_|refine zE rfl ?_|refine zF ?_|refine zG ?_|refine zH ?_|refine zI ?_|refine zJ ?_|refine zK ?_|refine zL rfl ?_|refine zN rfl ?_)
      try unfold Try.a7x17
      refine wp_neq_f rfl ?_
      repeat (first|refine zA ?_|refine zB rfl ?_|refine zC ?_|refine zD ?_|refine zE rfl ?_|refine zF ?_|refine zG ?_|refine zH ?_|refine zI ?_|refine zJ ?_|refine zK ?_|refine zL rfl ?_|refine zN rfl ?_)
      refine wp_ret ?_
      show wp EM _ _ _
      refine wp_ret ⟨rfl, ⟨t, leftL x (t : Int)⟩, blk2, wv, _, _, _, rfl, h2, ⟨hW.1, fun id hid2 => ?_⟩, H2.dropAt 0⟩
      obtain ⟨a, ha1, ha2⟩ := hW.2 id hid2
      refine ⟨a, ha1, fun g hg => ?_⟩
      obtain ⟨hg1, hg2⟩ := fnd_mem hg
      have hgx : g ∈ x.L := (List.mem_filter.1 hg1).1
      have hgt : (t : Int) < g.tm := by have := (List.mem_filter.1 hg1).2; simpa using this
      have h3 := ha2 g (by rw [← hg2]; exact h.ok.fnd hgx)
      have := lev_falls (n := x.now) (m := t) (a := g.tm) ht1 (by omega)
      show (lev t g.tm : Int) ≤ a
      omega
    · refine wp_bind (wp_ite_f (wp_ret ?_))
      show wp EM _ _ _
      exact wp_ret ⟨rfl, x, blk, wv, _, _, _, rfl, h, hW, H⟩
  refine wp_bind (wp_mono round fun t vs S' q => ?_)
  obtain ⟨rfl, y, blk', wv', u1', u2', u3', rfl, h', hW', H'⟩ := q
  show wp EM _ _ _
  exact wp_add64 (by omega) (by omega) (wp_ret (.inl ⟨rfl, l'.length + 1 - (i + 1), by omega, i + 1, y, blk', wv', u1', u2', u3', rfl, by omega, rfl, h', hW', H'⟩))
end
end Go.Abs
