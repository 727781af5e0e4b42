/- functions of this cut: what they compute, in the abstract machine. Conditions: stated in each theorem -/
import Derived.Test.YtjcfblbdljjhjaaE3
import Derived.Test.YtjcfblbdljjhjaaE2
set_option linter.unusedVariables false
set_option linter.unusedSimpArgs false
namespace Go.Abs
open Go.Proofs
set_option maxRecDepth 100000
/-- make([]T, n), T of one cell -/
theorem wp_mkslice1 {M : Mach} {B0 S : AH} {W : List Nat} {own : List Own} {ro : List Fct} {Q : Post} {k : AV → AC} (H : Cx B0 W S own ro) {z : AV} {bytes n : Nat} (hb : bytes * n ≤ 140737488355328) (hn : n ≤ 9223372036854775807)
    (h : ∀ t S1, Cx B0 W S1 (.sl t 1 (List.replicate n [z]) :: own) ro → wp M (k t) S1 Q) : wp M (.op (.mkslice 1 bytes [z] (I (n : Int)) (I (n : Int))) k) S Q := by
  have hz : ∀ m : Nat, repZero [z] m = List.replicate m z := by
    intro m
    induction m with
    | zero => rfl
    | succ m ih =>
      show appL [z] (repZero [z] m) = _
      rw [ih, appL_eq]; rfl
  have hnat : nat? (n : Int) = some n := by
    unfold nat?
    rfl
  refine wp_op (v := .sl S.next 0 n n) (S1 := S.new (.row (List.replicate n z))) ?_ (h _ _ (H.addOwn (Grows.new S _) (.inr ⟨S.next, 0, List.replicate n z, .inl ⟨n, by simp, by simp, by simp⟩, get_new_same _ _, ?_, ?_⟩) ?_))
  · show nMkslice 1 bytes [z] (I (n : Int)) (I (n : Int)) S = _
    unfold nMkslice
    simp only [asInt, vInt, hnat]
    have e : (Nat.ble n n && Nat.ble (Nat.mul bytes n) 140737488355328 && Nat.ble n 9223372036854775807 && Nat.beq (lenL [z]) 1) = true := by
      have hb' : Nat.ble (Nat.mul bytes n) 140737488355328 = true := ble_t hb
      rw [ble_t (Nat.le_refl n), hb', ble_t hn]; rfl
    rw [e, hz]
    rfl
  · have : ∀ m : Nat, (List.replicate m [z]).flatten = List.replicate m z := by
      intro m
      induction m with
      | zero => rfl
      | succ m ih => rw [List.replicate_succ, List.flatten_cons, ih]; rfl
    rw [this]; simp
  · intro x hx
    rw [(List.mem_replicate.1 hx).2]; rfl
  · intro j hj
    simp only [Own.ids, vids, List.mem_singleton] at hj
    subst hj
    simp
/-- which of two tasks is ahead -/
def ahead (l : List Tk) (a b : Nat) : Prop := prio l a < prio l b ∨ (prio l a = prio l b ∧ a < b)
theorem ordS_sorted (l : List Tk) (n : Nat) : (ordS l n).Pairwise (ahead l) := by
  unfold ordS
  rw [List.pairwise_flatMap]
  constructor
  · intro p _
    have h : (ofP l n p).Pairwise (· < ·) := by unfold ofP; exact List.pairwise_lt_range.filter _
    refine List.Pairwise.imp_of_mem ?_ h
    intro a b ha hb hab
    exact .inr ⟨by rw [(mem_ofP ha).2, (mem_ofP hb).2], hab⟩
  · refine List.Pairwise.imp ?_ (List.pairwise_lt_range (n := 255))
    intro p q hpq a ha b hb
    have := (mem_ofP ha).2
    have := (mem_ofP hb).2
    exact .inl (by omega)
theorem kword_lt {p s r p' s' r' : Int} (h : kok p s r) (h' : kok p' s' r') : kword p s r < kword p' s' r' ↔ (p < p' ∨ (p = p' ∧ (s < s' ∨ (s = s' ∧ r < r')))) := by
  obtain ⟨a1, a2, a3⟩ := h
  obtain ⟨b1, b2, b3⟩ := h'
  unfold kword
  omega
theorem kword_idle {p s r : Int} (h : kok p s r) : kword p s r ≠ 18446744073709551615 := by
  obtain ⟨a1, a2, a3⟩ := h
  unfold kword
  omega
theorem tkey_at {l : List Tk} {j : Nat} (hc : tchk l = 0) (hj : j < l.length) (s r : Int) : tkey l (j : Int) s r = putk l[j].prio s r := by
  unfold tkey
  rw [if_neg (by simpa using hc), if_neg (by omega), show ((j : Int)).toNat = j from rfl, List.getElem?_eq_getElem hj]
end Go.Abs
namespace Go.Abs
open Go.Proofs
set_option maxRecDepth 100000
theorem pick_lt {k : Int} {n : Nat} (h : 0 < n) : ∃ j : Nat, pick k (n : Int) = (j : Int) ∧ j < n := by
  have hp : 0 ≤ pick k (n : Int) ∧ pick k (n : Int) < n := by
    unfold pick
    rw [if_neg (by omega)]
    exact ⟨Int.emod_nonneg _ (by omega), Int.emod_lt_of_pos _ (by omega)⟩
  exact ⟨(pick k (n : Int)).toNat, by omega, by omega⟩
set_option maxHeartbeats 4000000 in
theorem taskSooner_ok {S : AH} {v : AV} {l : List Tk} {t u s s' r r' : Int} (hv : RoSl S v 4 (tks l)) : wpC EM (.fn (.func 9) [] []) [v, I t, I u, I s, I s', I r, I r'] S fun x _ => x = B true := by
  refine wpC_fn (b := Try.a9) rfl rfl ?_
  have H := Cx.ro1 hv
  unfold Try.a9
  refine known_ok ?_
  refine wp_callV H (check_ok (H.roSl (by repeat (first | exact List.Mem.head _ | apply List.Mem.tail)))) fun S1 H => ?_
  refine wp_neq (fun hne => ?_) (fun he => ?_)
  · repeat (first | refine wp_gop_t ?_ | refine wp_gop_f rfl ?_ | refine wp_gop_u ?_ | refine wp_gcall_t ?_ | refine wp_gcall_f rfl ?_ | refine wp_gcall_u ?_ | refine wp_ite_t ?_ | refine wp_ite_f ?_ | refine wp_faddr ?_ | refine wp_nilchk ?_ | refine wp_op (o := .mv _) rfl ?_ | refine wp_op (o := .pick _ _ _) rfl ?_ | refine wp_op (o := .extract _ _) rfl ?_)
    exact wp_ret ⟨rfl, rfl⟩
  have hlen := tchk_len he
  repeat (first | refine wp_gop_t ?_ | refine wp_gop_f rfl ?_ | refine wp_gop_u ?_ | refine wp_gcall_t ?_ | refine wp_gcall_f rfl ?_ | refine wp_gcall_u ?_ | refine wp_ite_t ?_ | refine wp_ite_f ?_ | refine wp_faddr ?_ | refine wp_nilchk ?_ | refine wp_op (o := .mv _) rfl ?_ | refine wp_op (o := .pick _ _ _) rfl ?_ | refine wp_op (o := .extract _ _) rfl ?_)
  refine wp_len H (by repeat (first | exact List.Mem.head _ | apply List.Mem.tail)) ?_
  rw [tks_len]
  repeat (first | refine wp_gop_t ?_ | refine wp_gop_f rfl ?_ | refine wp_gop_u ?_ | refine wp_gcall_t ?_ | refine wp_gcall_f rfl ?_ | refine wp_gcall_u ?_ | refine wp_ite_t ?_ | refine wp_ite_f ?_ | refine wp_faddr ?_ | refine wp_nilchk ?_ | refine wp_op (o := .mv _) rfl ?_ | refine wp_op (o := .pick _ _ _) rfl ?_ | refine wp_op (o := .extract _ _) rfl ?_)
  refine wp_eql (fun h0 => ?_) (fun h0 => ?_)
  · repeat (first | refine wp_gop_t ?_ | refine wp_gop_f rfl ?_ | refine wp_gop_u ?_ | refine wp_gcall_t ?_ | refine wp_gcall_f rfl ?_ | refine wp_gcall_u ?_ | refine wp_ite_t ?_ | refine wp_ite_f ?_ | refine wp_faddr ?_ | refine wp_nilchk ?_ | refine wp_op (o := .mv _) rfl ?_ | refine wp_op (o := .pick _ _ _) rfl ?_ | refine wp_op (o := .extract _ _) rfl ?_)
    exact wp_ret ⟨rfl, rfl⟩
  repeat (first | refine wp_gop_t ?_ | refine wp_gop_f rfl ?_ | refine wp_gop_u ?_ | refine wp_gcall_t ?_ | refine wp_gcall_f rfl ?_ | refine wp_gcall_u ?_ | refine wp_ite_t ?_ | refine wp_ite_f ?_ | refine wp_faddr ?_ | refine wp_nilchk ?_ | refine wp_op (o := .mv _) rfl ?_ | refine wp_op (o := .pick _ _ _) rfl ?_ | refine wp_op (o := .extract _ _) rfl ?_)
  refine wp_len H (by repeat (first | exact List.Mem.head _ | apply List.Mem.tail)) ?_
  rw [tks_len]
  repeat (first | refine wp_gop_t ?_ | refine wp_gop_f rfl ?_ | refine wp_gop_u ?_ | refine wp_gcall_t ?_ | refine wp_gcall_f rfl ?_ | refine wp_gcall_u ?_ | refine wp_ite_t ?_ | refine wp_ite_f ?_ | refine wp_faddr ?_ | refine wp_nilchk ?_ | refine wp_op (o := .mv _) rfl ?_ | refine wp_op (o := .pick _ _ _) rfl ?_ | refine wp_op (o := .extract _ _) rfl ?_)
  refine wp_gtr_f (by omega) ?_
  repeat (first | refine wp_gop_t ?_ | refine wp_gop_f rfl ?_ | refine wp_gop_u ?_ | refine wp_gcall_t ?_ | refine wp_gcall_f rfl ?_ | refine wp_gcall_u ?_ | refine wp_ite_t ?_ | refine wp_ite_f ?_ | refine wp_faddr ?_ | refine wp_nilchk ?_ | refine wp_op (o := .mv _) rfl ?_ | refine wp_op (o := .pick _ _ _) rfl ?_ | refine wp_op (o := .extract _ _) rfl ?_)
  refine wp_len H (by repeat (first | exact List.Mem.head _ | apply List.Mem.tail)) ?_
  rw [tks_len]
  obtain ⟨j, hj, hjl⟩ := pick_lt (k := t) (n := l.length) (by omega)
  obtain ⟨m, hm, hml⟩ := pick_lt (k := u) (n := l.length) (by omega)
  refine wp_call (wpC_mono (pick_ok rfl rfl (by omega)) fun _ S' ⟨e1, e2⟩ => ?_)
  rw [e1, e2, hj]
  clear e1 e2
  refine wp_len H (by repeat (first | exact List.Mem.head _ | apply List.Mem.tail)) ?_
  rw [tks_len]
  refine wp_call (wpC_mono (pick_ok rfl rfl (by omega)) fun _ S' ⟨e1, e2⟩ => ?_)
  rw [e1, e2, hm]
  clear e1 e2
  refine wp_callV H (key_ok (H.roSl (by repeat (first | exact List.Mem.head _ | apply List.Mem.tail)))) fun S2 H => ?_
  rw [tkey_at he hjl]
  -- behind the keys: the order
  have rest : ∀ (S3 : AH) (w0 : AV), Cx S [] S3 [] [.sl v 4 (tks l)] → wp EM (.call (.fn (.func 30) [] []) [v] fun v27 => Try.a9x23 [v, I t, I u, I s, I s', I r, I r'] (B true) [w0] v27) S3 fun t vs S' => t = .ret ∧ oneOf vs = B true := by
    intro S3 w0 H
    refine wp_callN H (order_ok (H.roSl (by repeat (first | exact List.Mem.head _ | apply List.Mem.tail)))) fun w S4 H => ?_
    have ho : order l = ordS l l.length := by unfold order; rw [if_pos he]
    rw [ho] at H
    have hol := ordS_len he l.length (Nat.le_refl _)
    have hsort := ordS_sorted l l.length
    have hmem : ∀ i ∈ ordS l l.length, i < l.length := fun i hi => mem_ordS hi
    generalize ordS l l.length = o at H hol hsort hmem
    replace H : Cx S [] S4 [] [.sl w 1 (nints o), .sl v 4 (tks l)] := H.toRo (i := 0) rfl
    unfold Try.a9x23
    refine wp_len (v := v) H (by repeat (first | exact List.Mem.head _ | apply List.Mem.tail)) ?_
    rw [tks_len]
    refine wp_mkslice1 H (by omega) (by omega) fun q S5 H => ?_
    refine wp_len (v := w) (es := 1) (L := nints o) H (by repeat (first | exact List.Mem.head _ | apply List.Mem.tail)) ?_
    rw [nints_len]
    refine wp_len (v := v) (es := 4) (L := tks l) H (by repeat (first | exact List.Mem.head _ | apply List.Mem.tail)) ?_
    rw [tks_len]
    refine wp_neq_f (by omega) ?_
    repeat (first | refine wp_gop_t ?_ | refine wp_gop_f rfl ?_ | refine wp_gop_u ?_ | refine wp_gcall_t ?_ | refine wp_gcall_f rfl ?_ | refine wp_gcall_u ?_ | refine wp_ite_t ?_ | refine wp_ite_f ?_ | refine wp_faddr ?_ | refine wp_nilchk ?_ | refine wp_op (o := .mv _) rfl ?_ | refine wp_op (o := .pick _ _ _) rfl ?_ | refine wp_op (o := .extract _ _) rfl ?_)
    refine wp_bind (wp_loop (wpL_for l.length (fun i vs S1 => ∃ (x : AV) (L : List (List AV)), vs = [I (i : Int), x] ∧ L.length = l.length ∧ (∀ k, k < l.length → L[k]? = some [B (decide (k ∈ o.take i))]) ∧ Cx S [] S1 [.sl q 1 L] [.sl w 1 (nints o), .sl v 4 (tks l)]) ?_ ?_ ⟨_, _, rfl, by simp, fun k hk => by simp [hk], H⟩))
    · rintro i vs S6 hlt ⟨x, L, rfl, hL, hseen, H⟩
      obtain ⟨y, hy⟩ : ∃ y, o[i]? = some y := ⟨o[i], List.getElem?_eq_getElem (by omega)⟩
      have hyo : y ∈ o := List.mem_of_getElem? hy
      have hyl := hmem y hyo
      have hgy : (nints o)[i]? = some [I (y : Int)] := by simp [nints, hy]
      have hno : y ∉ o.take i := by
        intro hin
        obtain ⟨a, ha, hay⟩ := List.mem_iff_getElem.1 hin
        have hai : a < i := by simp at ha; omega
        rw [List.getElem_take] at hay
        have hoi : o[i] = y := by
          have := List.getElem?_eq_some_iff.1 hy
          exact this.2
        have := List.pairwise_iff_getElem.1 hsort a i (by omega) (by omega) hai
        rw [hay, hoi] at this
        unfold ahead at this
        omega
      refine wp_len (v := w) (es := 1) (L := nints o) H (by repeat (first | exact List.Mem.head _ | apply List.Mem.tail)) ?_
      rw [nints_len]
      refine wp_lss_t (by omega) ?_
      repeat (first | refine wp_gop_t ?_ | refine wp_gop_f rfl ?_ | refine wp_gop_u ?_ | refine wp_gcall_t ?_ | refine wp_gcall_f rfl ?_ | refine wp_gcall_u ?_ | refine wp_ite_t ?_ | refine wp_ite_f ?_ | refine wp_faddr ?_ | refine wp_nilchk ?_ | refine wp_op (o := .mv _) rfl ?_ | refine wp_op (o := .pick _ _ _) rfl ?_ | refine wp_op (o := .extract _ _) rfl ?_)
      refine wp_bind ?_
      refine wp_saddr (v := w) (es := 1) (L := nints o) (i := i) H (by repeat (first | exact List.Mem.head _ | apply List.Mem.tail)) hgy fun p1 o1 H => ?_
      refine wp_load0 (id := p1) (off := o1) H (cs := [I (y : Int)]) (by repeat (first | exact List.Mem.head _ | apply List.Mem.tail)) rfl ?_
      refine wp_lss_f (by omega) ?_
      repeat (first | refine wp_gop_t ?_ | refine wp_gop_f rfl ?_ | refine wp_gop_u ?_ | refine wp_gcall_t ?_ | refine wp_gcall_f rfl ?_ | refine wp_gcall_u ?_ | refine wp_ite_t ?_ | refine wp_ite_f ?_ | refine wp_faddr ?_ | refine wp_nilchk ?_ | refine wp_op (o := .mv _) rfl ?_ | refine wp_op (o := .pick _ _ _) rfl ?_ | refine wp_op (o := .extract _ _) rfl ?_)
      refine wp_saddr (v := w) (es := 1) (L := nints o) (i := i) H (by repeat (first | exact List.Mem.head _ | apply List.Mem.tail)) hgy fun p2 o2 H => ?_
      repeat (first | refine wp_gop_t ?_ | refine wp_gop_f rfl ?_ | refine wp_gop_u ?_ | refine wp_gcall_t ?_ | refine wp_gcall_f rfl ?_ | refine wp_gcall_u ?_ | refine wp_ite_t ?_ | refine wp_ite_f ?_ | refine wp_faddr ?_ | refine wp_nilchk ?_ | refine wp_op (o := .mv _) rfl ?_ | refine wp_op (o := .pick _ _ _) rfl ?_ | refine wp_op (o := .extract _ _) rfl ?_)
      refine wp_load0 (id := p2) (off := o2) H (cs := [I (y : Int)]) (by repeat (first | exact List.Mem.head _ | apply List.Mem.tail)) rfl ?_
      repeat (first | refine wp_gop_t ?_ | refine wp_gop_f rfl ?_ | refine wp_gop_u ?_ | refine wp_gcall_t ?_ | refine wp_gcall_f rfl ?_ | refine wp_gcall_u ?_ | refine wp_ite_t ?_ | refine wp_ite_f ?_ | refine wp_faddr ?_ | refine wp_nilchk ?_ | refine wp_op (o := .mv _) rfl ?_ | refine wp_op (o := .pick _ _ _) rfl ?_ | refine wp_op (o := .extract _ _) rfl ?_)
      refine wp_len (v := v) (es := 4) (L := tks l) H (by repeat (first | exact List.Mem.head _ | apply List.Mem.tail)) ?_
      rw [tks_len]
      repeat (first | refine wp_gop_t ?_ | refine wp_gop_f rfl ?_ | refine wp_gop_u ?_ | refine wp_gcall_t ?_ | refine wp_gcall_f rfl ?_ | refine wp_gcall_u ?_ | refine wp_ite_t ?_ | refine wp_ite_f ?_ | refine wp_faddr ?_ | refine wp_nilchk ?_ | refine wp_op (o := .mv _) rfl ?_ | refine wp_op (o := .pick _ _ _) rfl ?_ | refine wp_op (o := .extract _ _) rfl ?_)
      refine wp_geq_f (by omega) ?_
      repeat (first | refine wp_gop_t ?_ | refine wp_gop_f rfl ?_ | refine wp_gop_u ?_ | refine wp_gcall_t ?_ | refine wp_gcall_f rfl ?_ | refine wp_gcall_u ?_ | refine wp_ite_t ?_ | refine wp_ite_f ?_ | refine wp_faddr ?_ | refine wp_nilchk ?_ | refine wp_op (o := .mv _) rfl ?_ | refine wp_op (o := .pick _ _ _) rfl ?_ | refine wp_op (o := .extract _ _) rfl ?_)
      refine wp_saddr (v := w) (es := 1) (L := nints o) (i := i) H (by repeat (first | exact List.Mem.head _ | apply List.Mem.tail)) hgy fun p3 o3 H => ?_
      repeat (first | refine wp_gop_t ?_ | refine wp_gop_f rfl ?_ | refine wp_gop_u ?_ | refine wp_gcall_t ?_ | refine wp_gcall_f rfl ?_ | refine wp_gcall_u ?_ | refine wp_ite_t ?_ | refine wp_ite_f ?_ | refine wp_faddr ?_ | refine wp_nilchk ?_ | refine wp_op (o := .mv _) rfl ?_ | refine wp_op (o := .pick _ _ _) rfl ?_ | refine wp_op (o := .extract _ _) rfl ?_)
      refine wp_load0 (id := p3) (off := o3) H (cs := [I (y : Int)]) (by repeat (first | exact List.Mem.head _ | apply List.Mem.tail)) rfl ?_
      repeat (first | refine wp_gop_t ?_ | refine wp_gop_f rfl ?_ | refine wp_gop_u ?_ | refine wp_gcall_t ?_ | refine wp_gcall_f rfl ?_ | refine wp_gcall_u ?_ | refine wp_ite_t ?_ | refine wp_ite_f ?_ | refine wp_faddr ?_ | refine wp_nilchk ?_ | refine wp_op (o := .mv _) rfl ?_ | refine wp_op (o := .pick _ _ _) rfl ?_ | refine wp_op (o := .extract _ _) rfl ?_)
      refine wp_saddro (i := y) H 0 rfl (hseen y hyl) fun p4 o4 h4 => ?_
      repeat (first | refine wp_gop_t ?_ | refine wp_gop_f rfl ?_ | refine wp_gop_u ?_ | refine wp_gcall_t ?_ | refine wp_gcall_f rfl ?_ | refine wp_gcall_u ?_ | refine wp_ite_t ?_ | refine wp_ite_f ?_ | refine wp_faddr ?_ | refine wp_nilchk ?_ | refine wp_op (o := .mv _) rfl ?_ | refine wp_op (o := .pick _ _ _) rfl ?_ | refine wp_op (o := .extract _ _) rfl ?_)
      refine wp_loadF (j := 0) h4 rfl ?_
      rw [decide_eq_false hno]
      repeat (first | refine wp_gop_t ?_ | refine wp_gop_f rfl ?_ | refine wp_gop_u ?_ | refine wp_gcall_t ?_ | refine wp_gcall_f rfl ?_ | refine wp_gcall_u ?_ | refine wp_ite_t ?_ | refine wp_ite_f ?_ | refine wp_faddr ?_ | refine wp_nilchk ?_ | refine wp_op (o := .mv _) rfl ?_ | refine wp_op (o := .pick _ _ _) rfl ?_ | refine wp_op (o := .extract _ _) rfl ?_)
      refine wp_saddr (v := w) (es := 1) (L := nints o) (i := i) H (by repeat (first | exact List.Mem.head _ | apply List.Mem.tail)) hgy fun p5 o5 H => ?_
      refine wp_load0 (id := p5) (off := o5) H (cs := [I (y : Int)]) (by repeat (first | exact List.Mem.head _ | apply List.Mem.tail)) rfl ?_
      unfold Try.a9x15
      refine wp_storeE (i := y) (y := B true) H 0 rfl (by omega) rfl rfl fun S7 H => ?_
      have hL' : (L.set y (B true).cells).length = l.length := by rw [List.length_set]; exact hL
      have htk : o.take (i + 1) = o.take i ++ [y] := by
        rw [List.take_add_one, hy]; rfl
      have hseen' : ∀ k, k < l.length → (L.set y (B true).cells)[k]? = some [B (decide (k ∈ o.take (i + 1)))] := by
        intro k hk
        rw [List.getElem?_set, htk]
        by_cases hyk : y = k
        · subst hyk
          rw [if_pos rfl, if_pos (by omega)]
          simp [AV.cells]
        · rw [if_neg hyk, hseen k hk]
          congr 4
          apply propext
          simp only [List.mem_append, List.mem_singleton]
          constructor
          · exact fun h => .inl h
          · rintro (h | h)
            · exact h
            · exact absurd h.symm hyk
      generalize L.set y (B true).cells = L' at H hL' hseen'
      replace H : Cx S [] S7 [.sl q 1 L'] [.sl w 1 (nints o), .sl v 4 (tks l)] := H.dropRo (by simp)
      refine wp_gtr (fun hi => ?_) (fun hi => ?_)
      · obtain ⟨i', rfl⟩ : ∃ i' : Nat, i = i' + 1 := ⟨i - 1, by omega⟩
        obtain ⟨z, hz⟩ : ∃ z, o[i']? = some z := ⟨o[i'], List.getElem?_eq_getElem (by omega)⟩
        have hzl := hmem z (List.mem_of_getElem? hz)
        have hgz : (nints o)[i']? = some [I (z : Int)] := by simp [nints, hz]
        have hah : ahead l z y := by
          have a1 := (List.getElem?_eq_some_iff.1 hz).2
          have a2 := (List.getElem?_eq_some_iff.1 hy).2
          have := List.pairwise_iff_getElem.1 hsort i' (i' + 1) (by omega) (by omega) (by omega)
          rw [a1, a2] at this
          exact this
        unfold ahead at hah
        rw [prio_get hzl, prio_get hyl] at hah
        repeat (first | refine wp_gop_t ?_ | refine wp_gop_f rfl ?_ | refine wp_gop_u ?_ | refine wp_gcall_t ?_ | refine wp_gcall_f rfl ?_ | refine wp_gcall_u ?_ | refine wp_ite_t ?_ | refine wp_ite_f ?_ | refine wp_faddr ?_ | refine wp_nilchk ?_ | refine wp_op (o := .mv _) rfl ?_ | refine wp_op (o := .pick _ _ _) rfl ?_ | refine wp_op (o := .extract _ _) rfl ?_)
        refine wp_saddr (v := w) (es := 1) (L := nints o) (i := i' + 1) H (by repeat (first | exact List.Mem.head _ | apply List.Mem.tail)) hgy fun pp1 oo1 H => ?_
        repeat (first | refine wp_gop_t ?_ | refine wp_gop_f rfl ?_ | refine wp_gop_u ?_ | refine wp_gcall_t ?_ | refine wp_gcall_f rfl ?_ | refine wp_gcall_u ?_ | refine wp_ite_t ?_ | refine wp_ite_f ?_ | refine wp_faddr ?_ | refine wp_nilchk ?_ | refine wp_op (o := .mv _) rfl ?_ | refine wp_op (o := .pick _ _ _) rfl ?_ | refine wp_op (o := .extract _ _) rfl ?_)
        refine wp_load0 (id := pp1) (off := oo1) H (cs := [I (y : Int)]) (by repeat (first | exact List.Mem.head _ | apply List.Mem.tail)) rfl ?_
        repeat (first | refine wp_gop_t ?_ | refine wp_gop_f rfl ?_ | refine wp_gop_u ?_ | refine wp_gcall_t ?_ | refine wp_gcall_f rfl ?_ | refine wp_gcall_u ?_ | refine wp_ite_t ?_ | refine wp_ite_f ?_ | refine wp_faddr ?_ | refine wp_nilchk ?_ | refine wp_op (o := .mv _) rfl ?_ | refine wp_op (o := .pick _ _ _) rfl ?_ | refine wp_op (o := .extract _ _) rfl ?_)
        refine wp_saddr (v := v) (es := 4) (L := tks l) (i := y) H (by repeat (first | exact List.Mem.head _ | apply List.Mem.tail)) (tks_get hyl) fun pp2 oo2 H => ?_
        repeat (first | refine wp_gop_t ?_ | refine wp_gop_f rfl ?_ | refine wp_gop_u ?_ | refine wp_gcall_t ?_ | refine wp_gcall_f rfl ?_ | refine wp_gcall_u ?_ | refine wp_ite_t ?_ | refine wp_ite_f ?_ | refine wp_faddr ?_ | refine wp_nilchk ?_ | refine wp_op (o := .mv _) rfl ?_ | refine wp_op (o := .pick _ _ _) rfl ?_ | refine wp_op (o := .extract _ _) rfl ?_)
        refine wp_load1 (id := pp2) (off := oo2) H (cs := l[y].cs) (by repeat (first | exact List.Mem.head _ | apply List.Mem.tail)) rfl ?_
        repeat (first | refine wp_gop_t ?_ | refine wp_gop_f rfl ?_ | refine wp_gop_u ?_ | refine wp_gcall_t ?_ | refine wp_gcall_f rfl ?_ | refine wp_gcall_u ?_ | refine wp_ite_t ?_ | refine wp_ite_f ?_ | refine wp_faddr ?_ | refine wp_nilchk ?_ | refine wp_op (o := .mv _) rfl ?_ | refine wp_op (o := .pick _ _ _) rfl ?_ | refine wp_op (o := .extract _ _) rfl ?_)
        refine wp_sub (c := (i' : Int)) (by rw [wrap64 (by omega) (by omega)]; omega) ?_
        repeat (first | refine wp_gop_t ?_ | refine wp_gop_f rfl ?_ | refine wp_gop_u ?_ | refine wp_gcall_t ?_ | refine wp_gcall_f rfl ?_ | refine wp_gcall_u ?_ | refine wp_ite_t ?_ | refine wp_ite_f ?_ | refine wp_faddr ?_ | refine wp_nilchk ?_ | refine wp_op (o := .mv _) rfl ?_ | refine wp_op (o := .pick _ _ _) rfl ?_ | refine wp_op (o := .extract _ _) rfl ?_)
        refine wp_saddr (v := w) (es := 1) (L := nints o) (i := i') H (by repeat (first | exact List.Mem.head _ | apply List.Mem.tail)) hgz fun pp3 oo3 H => ?_
        repeat (first | refine wp_gop_t ?_ | refine wp_gop_f rfl ?_ | refine wp_gop_u ?_ | refine wp_gcall_t ?_ | refine wp_gcall_f rfl ?_ | refine wp_gcall_u ?_ | refine wp_ite_t ?_ | refine wp_ite_f ?_ | refine wp_faddr ?_ | refine wp_nilchk ?_ | refine wp_op (o := .mv _) rfl ?_ | refine wp_op (o := .pick _ _ _) rfl ?_ | refine wp_op (o := .extract _ _) rfl ?_)
        refine wp_load0 (id := pp3) (off := oo3) H (cs := [I (z : Int)]) (by repeat (first | exact List.Mem.head _ | apply List.Mem.tail)) rfl ?_
        repeat (first | refine wp_gop_t ?_ | refine wp_gop_f rfl ?_ | refine wp_gop_u ?_ | refine wp_gcall_t ?_ | refine wp_gcall_f rfl ?_ | refine wp_gcall_u ?_ | refine wp_ite_t ?_ | refine wp_ite_f ?_ | refine wp_faddr ?_ | refine wp_nilchk ?_ | refine wp_op (o := .mv _) rfl ?_ | refine wp_op (o := .pick _ _ _) rfl ?_ | refine wp_op (o := .extract _ _) rfl ?_)
        refine wp_saddr (v := v) (es := 4) (L := tks l) (i := z) H (by repeat (first | exact List.Mem.head _ | apply List.Mem.tail)) (tks_get hzl) fun pp4 oo4 H => ?_
        repeat (first | refine wp_gop_t ?_ | refine wp_gop_f rfl ?_ | refine wp_gop_u ?_ | refine wp_gcall_t ?_ | refine wp_gcall_f rfl ?_ | refine wp_gcall_u ?_ | refine wp_ite_t ?_ | refine wp_ite_f ?_ | refine wp_faddr ?_ | refine wp_nilchk ?_ | refine wp_op (o := .mv _) rfl ?_ | refine wp_op (o := .pick _ _ _) rfl ?_ | refine wp_op (o := .extract _ _) rfl ?_)
        refine wp_load1 (id := pp4) (off := oo4) H (cs := l[z].cs) (by repeat (first | exact List.Mem.head _ | apply List.Mem.tail)) rfl ?_
        repeat (first | refine wp_gop_t ?_ | refine wp_gop_f rfl ?_ | refine wp_gop_u ?_ | refine wp_gcall_t ?_ | refine wp_gcall_f rfl ?_ | refine wp_gcall_u ?_ | refine wp_ite_t ?_ | refine wp_ite_f ?_ | refine wp_faddr ?_ | refine wp_nilchk ?_ | refine wp_op (o := .mv _) rfl ?_ | refine wp_op (o := .pick _ _ _) rfl ?_ | refine wp_op (o := .extract _ _) rfl ?_)
        refine wp_lss_f (by omega) ?_
        repeat (first | refine wp_gop_t ?_ | refine wp_gop_f rfl ?_ | refine wp_gop_u ?_ | refine wp_gcall_t ?_ | refine wp_gcall_f rfl ?_ | refine wp_gcall_u ?_ | refine wp_ite_t ?_ | refine wp_ite_f ?_ | refine wp_faddr ?_ | refine wp_nilchk ?_ | refine wp_op (o := .mv _) rfl ?_ | refine wp_op (o := .pick _ _ _) rfl ?_ | refine wp_op (o := .extract _ _) rfl ?_)
        refine wp_saddr (v := w) (es := 1) (L := nints o) (i := i' + 1) H (by repeat (first | exact List.Mem.head _ | apply List.Mem.tail)) hgy fun pp5 oo5 H => ?_
        repeat (first | refine wp_gop_t ?_ | refine wp_gop_f rfl ?_ | refine wp_gop_u ?_ | refine wp_gcall_t ?_ | refine wp_gcall_f rfl ?_ | refine wp_gcall_u ?_ | refine wp_ite_t ?_ | refine wp_ite_f ?_ | refine wp_faddr ?_ | refine wp_nilchk ?_ | refine wp_op (o := .mv _) rfl ?_ | refine wp_op (o := .pick _ _ _) rfl ?_ | refine wp_op (o := .extract _ _) rfl ?_)
        refine wp_load0 (id := pp5) (off := oo5) H (cs := [I (y : Int)]) (by repeat (first | exact List.Mem.head _ | apply List.Mem.tail)) rfl ?_
        repeat (first | refine wp_gop_t ?_ | refine wp_gop_f rfl ?_ | refine wp_gop_u ?_ | refine wp_gcall_t ?_ | refine wp_gcall_f rfl ?_ | refine wp_gcall_u ?_ | refine wp_ite_t ?_ | refine wp_ite_f ?_ | refine wp_faddr ?_ | refine wp_nilchk ?_ | refine wp_op (o := .mv _) rfl ?_ | refine wp_op (o := .pick _ _ _) rfl ?_ | refine wp_op (o := .extract _ _) rfl ?_)
        refine wp_saddr (v := v) (es := 4) (L := tks l) (i := y) H (by repeat (first | exact List.Mem.head _ | apply List.Mem.tail)) (tks_get hyl) fun pp6 oo6 H => ?_
        repeat (first | refine wp_gop_t ?_ | refine wp_gop_f rfl ?_ | refine wp_gop_u ?_ | refine wp_gcall_t ?_ | refine wp_gcall_f rfl ?_ | refine wp_gcall_u ?_ | refine wp_ite_t ?_ | refine wp_ite_f ?_ | refine wp_faddr ?_ | refine wp_nilchk ?_ | refine wp_op (o := .mv _) rfl ?_ | refine wp_op (o := .pick _ _ _) rfl ?_ | refine wp_op (o := .extract _ _) rfl ?_)
        refine wp_load1 (id := pp6) (off := oo6) H (cs := l[y].cs) (by repeat (first | exact List.Mem.head _ | apply List.Mem.tail)) rfl ?_
        repeat (first | refine wp_gop_t ?_ | refine wp_gop_f rfl ?_ | refine wp_gop_u ?_ | refine wp_gcall_t ?_ | refine wp_gcall_f rfl ?_ | refine wp_gcall_u ?_ | refine wp_ite_t ?_ | refine wp_ite_f ?_ | refine wp_faddr ?_ | refine wp_nilchk ?_ | refine wp_op (o := .mv _) rfl ?_ | refine wp_op (o := .pick _ _ _) rfl ?_ | refine wp_op (o := .extract _ _) rfl ?_)
        refine wp_sub (c := (i' : Int)) (by rw [wrap64 (by omega) (by omega)]; omega) ?_
        repeat (first | refine wp_gop_t ?_ | refine wp_gop_f rfl ?_ | refine wp_gop_u ?_ | refine wp_gcall_t ?_ | refine wp_gcall_f rfl ?_ | refine wp_gcall_u ?_ | refine wp_ite_t ?_ | refine wp_ite_f ?_ | refine wp_faddr ?_ | refine wp_nilchk ?_ | refine wp_op (o := .mv _) rfl ?_ | refine wp_op (o := .pick _ _ _) rfl ?_ | refine wp_op (o := .extract _ _) rfl ?_)
        refine wp_saddr (v := w) (es := 1) (L := nints o) (i := i') H (by repeat (first | exact List.Mem.head _ | apply List.Mem.tail)) hgz fun pp7 oo7 H => ?_
        repeat (first | refine wp_gop_t ?_ | refine wp_gop_f rfl ?_ | refine wp_gop_u ?_ | refine wp_gcall_t ?_ | refine wp_gcall_f rfl ?_ | refine wp_gcall_u ?_ | refine wp_ite_t ?_ | refine wp_ite_f ?_ | refine wp_faddr ?_ | refine wp_nilchk ?_ | refine wp_op (o := .mv _) rfl ?_ | refine wp_op (o := .pick _ _ _) rfl ?_ | refine wp_op (o := .extract _ _) rfl ?_)
        refine wp_load0 (id := pp7) (off := oo7) H (cs := [I (z : Int)]) (by repeat (first | exact List.Mem.head _ | apply List.Mem.tail)) rfl ?_
        repeat (first | refine wp_gop_t ?_ | refine wp_gop_f rfl ?_ | refine wp_gop_u ?_ | refine wp_gcall_t ?_ | refine wp_gcall_f rfl ?_ | refine wp_gcall_u ?_ | refine wp_ite_t ?_ | refine wp_ite_f ?_ | refine wp_faddr ?_ | refine wp_nilchk ?_ | refine wp_op (o := .mv _) rfl ?_ | refine wp_op (o := .pick _ _ _) rfl ?_ | refine wp_op (o := .extract _ _) rfl ?_)
        refine wp_saddr (v := v) (es := 4) (L := tks l) (i := z) H (by repeat (first | exact List.Mem.head _ | apply List.Mem.tail)) (tks_get hzl) fun pp8 oo8 H => ?_
        repeat (first | refine wp_gop_t ?_ | refine wp_gop_f rfl ?_ | refine wp_gop_u ?_ | refine wp_gcall_t ?_ | refine wp_gcall_f rfl ?_ | refine wp_gcall_u ?_ | refine wp_ite_t ?_ | refine wp_ite_f ?_ | refine wp_faddr ?_ | refine wp_nilchk ?_ | refine wp_op (o := .mv _) rfl ?_ | refine wp_op (o := .pick _ _ _) rfl ?_ | refine wp_op (o := .extract _ _) rfl ?_)
        refine wp_load1 (id := pp8) (off := oo8) H (cs := l[z].cs) (by repeat (first | exact List.Mem.head _ | apply List.Mem.tail)) rfl ?_
        repeat (first | refine wp_gop_t ?_ | refine wp_gop_f rfl ?_ | refine wp_gop_u ?_ | refine wp_gcall_t ?_ | refine wp_gcall_f rfl ?_ | refine wp_gcall_u ?_ | refine wp_ite_t ?_ | refine wp_ite_f ?_ | refine wp_faddr ?_ | refine wp_nilchk ?_ | refine wp_op (o := .mv _) rfl ?_ | refine wp_op (o := .pick _ _ _) rfl ?_ | refine wp_op (o := .extract _ _) rfl ?_)
        refine wp_eql (fun heq => ?_) (fun hneq => ?_)
        · repeat (first | refine wp_gop_t ?_ | refine wp_gop_f rfl ?_ | refine wp_gop_u ?_ | refine wp_gcall_t ?_ | refine wp_gcall_f rfl ?_ | refine wp_gcall_u ?_ | refine wp_ite_t ?_ | refine wp_ite_f ?_ | refine wp_faddr ?_ | refine wp_nilchk ?_ | refine wp_op (o := .mv _) rfl ?_ | refine wp_op (o := .pick _ _ _) rfl ?_ | refine wp_op (o := .extract _ _) rfl ?_)
          refine wp_saddr (v := w) (es := 1) (L := nints o) (i := i' + 1) H (by repeat (first | exact List.Mem.head _ | apply List.Mem.tail)) hgy fun pp9 oo9 H => ?_
          repeat (first | refine wp_gop_t ?_ | refine wp_gop_f rfl ?_ | refine wp_gop_u ?_ | refine wp_gcall_t ?_ | refine wp_gcall_f rfl ?_ | refine wp_gcall_u ?_ | refine wp_ite_t ?_ | refine wp_ite_f ?_ | refine wp_faddr ?_ | refine wp_nilchk ?_ | refine wp_op (o := .mv _) rfl ?_ | refine wp_op (o := .pick _ _ _) rfl ?_ | refine wp_op (o := .extract _ _) rfl ?_)
          refine wp_load0 (id := pp9) (off := oo9) H (cs := [I (y : Int)]) (by repeat (first | exact List.Mem.head _ | apply List.Mem.tail)) rfl ?_
          repeat (first | refine wp_gop_t ?_ | refine wp_gop_f rfl ?_ | refine wp_gop_u ?_ | refine wp_gcall_t ?_ | refine wp_gcall_f rfl ?_ | refine wp_gcall_u ?_ | refine wp_ite_t ?_ | refine wp_ite_f ?_ | refine wp_faddr ?_ | refine wp_nilchk ?_ | refine wp_op (o := .mv _) rfl ?_ | refine wp_op (o := .pick _ _ _) rfl ?_ | refine wp_op (o := .extract _ _) rfl ?_)
          refine wp_sub (c := (i' : Int)) (by rw [wrap64 (by omega) (by omega)]; omega) ?_
          repeat (first | refine wp_gop_t ?_ | refine wp_gop_f rfl ?_ | refine wp_gop_u ?_ | refine wp_gcall_t ?_ | refine wp_gcall_f rfl ?_ | refine wp_gcall_u ?_ | refine wp_ite_t ?_ | refine wp_ite_f ?_ | refine wp_faddr ?_ | refine wp_nilchk ?_ | refine wp_op (o := .mv _) rfl ?_ | refine wp_op (o := .pick _ _ _) rfl ?_ | refine wp_op (o := .extract _ _) rfl ?_)
          refine wp_saddr (v := w) (es := 1) (L := nints o) (i := i') H (by repeat (first | exact List.Mem.head _ | apply List.Mem.tail)) hgz fun pp10 oo10 H => ?_
          repeat (first | refine wp_gop_t ?_ | refine wp_gop_f rfl ?_ | refine wp_gop_u ?_ | refine wp_gcall_t ?_ | refine wp_gcall_f rfl ?_ | refine wp_gcall_u ?_ | refine wp_ite_t ?_ | refine wp_ite_f ?_ | refine wp_faddr ?_ | refine wp_nilchk ?_ | refine wp_op (o := .mv _) rfl ?_ | refine wp_op (o := .pick _ _ _) rfl ?_ | refine wp_op (o := .extract _ _) rfl ?_)
          refine wp_load0 (id := pp10) (off := oo10) H (cs := [I (z : Int)]) (by repeat (first | exact List.Mem.head _ | apply List.Mem.tail)) rfl ?_
          repeat (first | refine wp_gop_t ?_ | refine wp_gop_f rfl ?_ | refine wp_gop_u ?_ | refine wp_gcall_t ?_ | refine wp_gcall_f rfl ?_ | refine wp_gcall_u ?_ | refine wp_ite_t ?_ | refine wp_ite_f ?_ | refine wp_faddr ?_ | refine wp_nilchk ?_ | refine wp_op (o := .mv _) rfl ?_ | refine wp_op (o := .pick _ _ _) rfl ?_ | refine wp_op (o := .extract _ _) rfl ?_)
          refine wp_lss_f (by omega) ?_
          repeat (first | refine wp_gop_t ?_ | refine wp_gop_f rfl ?_ | refine wp_gop_u ?_ | refine wp_gcall_t ?_ | refine wp_gcall_f rfl ?_ | refine wp_gcall_u ?_ | refine wp_ite_t ?_ | refine wp_ite_f ?_ | refine wp_faddr ?_ | refine wp_nilchk ?_ | refine wp_op (o := .mv _) rfl ?_ | refine wp_op (o := .pick _ _ _) rfl ?_ | refine wp_op (o := .extract _ _) rfl ?_)
          refine wp_ret ?_
          show wp EM _ _ _
          exact wp_add64 (by omega) (by omega) (wp_ret (.inl ⟨rfl, _, L', rfl, hL', hseen', H.dropRo (by simp)⟩))
        · repeat (first | refine wp_gop_t ?_ | refine wp_gop_f rfl ?_ | refine wp_gop_u ?_ | refine wp_gcall_t ?_ | refine wp_gcall_f rfl ?_ | refine wp_gcall_u ?_ | refine wp_ite_t ?_ | refine wp_ite_f ?_ | refine wp_faddr ?_ | refine wp_nilchk ?_ | refine wp_op (o := .mv _) rfl ?_ | refine wp_op (o := .pick _ _ _) rfl ?_ | refine wp_op (o := .extract _ _) rfl ?_)
          refine wp_ret ?_
          show wp EM _ _ _
          exact wp_add64 (by omega) (by omega) (wp_ret (.inl ⟨rfl, _, L', rfl, hL', hseen', H.dropRo (by simp)⟩))
      · repeat (first | refine wp_gop_t ?_ | refine wp_gop_f rfl ?_ | refine wp_gop_u ?_ | refine wp_gcall_t ?_ | refine wp_gcall_f rfl ?_ | refine wp_gcall_u ?_ | refine wp_ite_t ?_ | refine wp_ite_f ?_ | refine wp_faddr ?_ | refine wp_nilchk ?_ | refine wp_op (o := .mv _) rfl ?_ | refine wp_op (o := .pick _ _ _) rfl ?_ | refine wp_op (o := .extract _ _) rfl ?_)
        refine wp_ret ?_
        show wp EM _ _ _
        exact wp_add64 (by omega) (by omega) (wp_ret (.inl ⟨rfl, _, L', rfl, hL', hseen', H⟩))
    · rintro vs S6 ⟨x, L, rfl, hL, hseen, H⟩
      refine wp_len (v := w) (es := 1) (L := nints o) H (by repeat (first | exact List.Mem.head _ | apply List.Mem.tail)) ?_
      rw [nints_len]
      refine wp_lss_f (by omega) ?_
      repeat (first | refine wp_gop_t ?_ | refine wp_gop_f rfl ?_ | refine wp_gop_u ?_ | refine wp_gcall_t ?_ | refine wp_gcall_f rfl ?_ | refine wp_gcall_u ?_ | refine wp_ite_t ?_ | refine wp_ite_f ?_ | refine wp_faddr ?_ | refine wp_nilchk ?_ | refine wp_op (o := .mv _) rfl ?_ | refine wp_op (o := .pick _ _ _) rfl ?_ | refine wp_op (o := .extract _ _) rfl ?_)
      exact wp_ret ⟨by simp, wp_ret ⟨rfl, rfl⟩⟩
  by_cases k1 : kok l[j].prio s r
  · rw [show putk l[j].prio s r = .tup [U (kword l[j].prio s r), I 0] from if_pos k1]
    repeat (first | refine wp_gop_t ?_ | refine wp_gop_f rfl ?_ | refine wp_gop_u ?_ | refine wp_gcall_t ?_ | refine wp_gcall_f rfl ?_ | refine wp_gcall_u ?_ | refine wp_ite_t ?_ | refine wp_ite_f ?_ | refine wp_faddr ?_ | refine wp_nilchk ?_ | refine wp_op (o := .mv _) rfl ?_ | refine wp_op (o := .pick _ _ _) rfl ?_ | refine wp_op (o := .extract _ _) rfl ?_)
    refine wp_callV H (key_ok (H.roSl (by repeat (first | exact List.Mem.head _ | apply List.Mem.tail)))) fun S3 H => ?_
    rw [tkey_at he hml]
    by_cases k2 : kok l[m].prio s' r'
    · rw [show putk l[m].prio s' r' = .tup [U (kword l[m].prio s' r'), I 0] from if_pos k2]
      have hlt := kword_lt k1 k2
      have hid := kword_idle k1
      repeat (first | refine wp_gop_t ?_ | refine wp_gop_f rfl ?_ | refine wp_gop_u ?_ | refine wp_gcall_t ?_ | refine wp_gcall_f rfl ?_ | refine wp_gcall_u ?_ | refine wp_ite_t ?_ | refine wp_ite_f ?_ | refine wp_faddr ?_ | refine wp_nilchk ?_ | refine wp_op (o := .mv _) rfl ?_ | refine wp_op (o := .pick _ _ _) rfl ?_ | refine wp_op (o := .extract _ _) rfl ?_)
      refine wp_eql_t rfl ?_
      repeat (first | refine wp_gop_t ?_ | refine wp_gop_f rfl ?_ | refine wp_gop_u ?_ | refine wp_gcall_t ?_ | refine wp_gcall_f rfl ?_ | refine wp_gcall_u ?_ | refine wp_ite_t ?_ | refine wp_ite_f ?_ | refine wp_faddr ?_ | refine wp_nilchk ?_ | refine wp_op (o := .mv _) rfl ?_ | refine wp_op (o := .pick _ _ _) rfl ?_ | refine wp_op (o := .extract _ _) rfl ?_)
      refine wp_eql_t rfl ?_
      repeat (first | refine wp_gop_t ?_ | refine wp_gop_f rfl ?_ | refine wp_gop_u ?_ | refine wp_gcall_t ?_ | refine wp_gcall_f rfl ?_ | refine wp_gcall_u ?_ | refine wp_ite_t ?_ | refine wp_ite_f ?_ | refine wp_faddr ?_ | refine wp_nilchk ?_ | refine wp_op (o := .mv _) rfl ?_ | refine wp_op (o := .pick _ _ _) rfl ?_ | refine wp_op (o := .extract _ _) rfl ?_)
      refine wp_bind ?_
      have fin : ∀ (S4 : AH) (b : Bool), Cx S [] S4 [] [.sl v 4 (tks l)] → (b = true ↔ kword l[j].prio s r < kword l[m].prio s' r') → wp EM (.op (.bin .lss (U (kword l[j].prio s r)) (U (kword l[m].prio s' r'))) fun v60 => .op (.eq 4 true (B b) v60) fun v61 => Try.a9x0 (U (kword l[j].prio s r)) v61) S4 (boundTo EM none (fun v26 => .call (.fn (.func 30) [] []) [v] fun v27 => Try.a9x23 [v, I t, I u, I s, I s', I r, I r'] (B true) v26 v27) (fun v26 => [(nth v26 0)]) fun t vs S' => t = .ret ∧ oneOf vs = B true) := by
        intro S4 b H hb
        have last : wp EM (Try.a9x0 (U (kword l[j].prio s r)) (B false)) S4 (boundTo EM none (fun v26 => .call (.fn (.func 30) [] []) [v] fun v27 => Try.a9x23 [v, I t, I u, I s, I s', I r, I r'] (B true) v26 v27) (fun v26 => [(nth v26 0)]) fun t vs S' => t = .ret ∧ oneOf vs = B true) := by
          unfold Try.a9x0
          repeat (first | refine wp_gop_t ?_ | refine wp_gop_f rfl ?_ | refine wp_gop_u ?_ | refine wp_gcall_t ?_ | refine wp_gcall_f rfl ?_ | refine wp_gcall_u ?_ | refine wp_ite_t ?_ | refine wp_ite_f ?_ | refine wp_faddr ?_ | refine wp_nilchk ?_ | refine wp_op (o := .mv _) rfl ?_ | refine wp_op (o := .pick _ _ _) rfl ?_ | refine wp_op (o := .extract _ _) rfl ?_)
          refine wp_eql_f hid ?_
          repeat (first | refine wp_gop_t ?_ | refine wp_gop_f rfl ?_ | refine wp_gop_u ?_ | refine wp_gcall_t ?_ | refine wp_gcall_f rfl ?_ | refine wp_gcall_u ?_ | refine wp_ite_t ?_ | refine wp_ite_f ?_ | refine wp_faddr ?_ | refine wp_nilchk ?_ | refine wp_op (o := .mv _) rfl ?_ | refine wp_op (o := .pick _ _ _) rfl ?_ | refine wp_op (o := .extract _ _) rfl ?_)
          refine wp_ret ?_
          exact rest S4 _ H
        refine wp_lss (fun h => ?_) (fun h => ?_)
        · refine wp_op (e_eqb und4) ?_
          rw [hb.2 h]
          exact last
        · refine wp_op (e_eqb und4) ?_
          have : b = false := by
            cases b with
            | false => rfl
            | true => have := hb.1 rfl; omega
          rw [this]
          exact last
      repeat (first | refine wp_gop_t ?_ | refine wp_gop_f rfl ?_ | refine wp_gop_u ?_ | refine wp_gcall_t ?_ | refine wp_gcall_f rfl ?_ | refine wp_gcall_u ?_ | refine wp_ite_t ?_ | refine wp_ite_f ?_ | refine wp_faddr ?_ | refine wp_nilchk ?_ | refine wp_op (o := .mv _) rfl ?_ | refine wp_op (o := .pick _ _ _) rfl ?_ | refine wp_op (o := .extract _ _) rfl ?_)
      refine wp_saddr (i := j) H (by repeat (first | exact List.Mem.head _ | apply List.Mem.tail)) (tks_get hjl) fun p1 o1 H => ?_
      repeat (first | refine wp_gop_t ?_ | refine wp_gop_f rfl ?_ | refine wp_gop_u ?_ | refine wp_gcall_t ?_ | refine wp_gcall_f rfl ?_ | refine wp_gcall_u ?_ | refine wp_ite_t ?_ | refine wp_ite_f ?_ | refine wp_faddr ?_ | refine wp_nilchk ?_ | refine wp_op (o := .mv _) rfl ?_ | refine wp_op (o := .pick _ _ _) rfl ?_ | refine wp_op (o := .extract _ _) rfl ?_)
      refine wp_load1 (id := p1) (off := o1) H (cs := l[j].cs) (by repeat (first | exact List.Mem.head _ | apply List.Mem.tail)) rfl ?_
      refine wp_saddr (i := m) H (by repeat (first | exact List.Mem.head _ | apply List.Mem.tail)) (tks_get hml) fun p2 o2 H => ?_
      repeat (first | refine wp_gop_t ?_ | refine wp_gop_f rfl ?_ | refine wp_gop_u ?_ | refine wp_gcall_t ?_ | refine wp_gcall_f rfl ?_ | refine wp_gcall_u ?_ | refine wp_ite_t ?_ | refine wp_ite_f ?_ | refine wp_faddr ?_ | refine wp_nilchk ?_ | refine wp_op (o := .mv _) rfl ?_ | refine wp_op (o := .pick _ _ _) rfl ?_ | refine wp_op (o := .extract _ _) rfl ?_)
      refine wp_load1 (id := p2) (off := o2) H (cs := l[m].cs) (by repeat (first | exact List.Mem.head _ | apply List.Mem.tail)) rfl ?_
      refine wp_lss (fun c1 => ?_) (fun c1 => ?_)
      · repeat (first | refine wp_gop_t ?_ | refine wp_gop_f rfl ?_ | refine wp_gop_u ?_ | refine wp_gcall_t ?_ | refine wp_gcall_f rfl ?_ | refine wp_gcall_u ?_ | refine wp_ite_t ?_ | refine wp_ite_f ?_ | refine wp_faddr ?_ | refine wp_nilchk ?_ | refine wp_op (o := .mv _) rfl ?_ | refine wp_op (o := .pick _ _ _) rfl ?_ | refine wp_op (o := .extract _ _) rfl ?_)
        exact fin _ _ (H.dropRo (by simp)) ⟨fun _ => hlt.2 (.inl c1), fun _ => rfl⟩
      repeat (first | refine wp_gop_t ?_ | refine wp_gop_f rfl ?_ | refine wp_gop_u ?_ | refine wp_gcall_t ?_ | refine wp_gcall_f rfl ?_ | refine wp_gcall_u ?_ | refine wp_ite_t ?_ | refine wp_ite_f ?_ | refine wp_faddr ?_ | refine wp_nilchk ?_ | refine wp_op (o := .mv _) rfl ?_ | refine wp_op (o := .pick _ _ _) rfl ?_ | refine wp_op (o := .extract _ _) rfl ?_)
      refine wp_saddr (i := j) H (by repeat (first | exact List.Mem.head _ | apply List.Mem.tail)) (tks_get hjl) fun p3 o3 H => ?_
      repeat (first | refine wp_gop_t ?_ | refine wp_gop_f rfl ?_ | refine wp_gop_u ?_ | refine wp_gcall_t ?_ | refine wp_gcall_f rfl ?_ | refine wp_gcall_u ?_ | refine wp_ite_t ?_ | refine wp_ite_f ?_ | refine wp_faddr ?_ | refine wp_nilchk ?_ | refine wp_op (o := .mv _) rfl ?_ | refine wp_op (o := .pick _ _ _) rfl ?_ | refine wp_op (o := .extract _ _) rfl ?_)
      refine wp_load1 (id := p3) (off := o3) H (cs := l[j].cs) (by repeat (first | exact List.Mem.head _ | apply List.Mem.tail)) rfl ?_
      repeat (first | refine wp_gop_t ?_ | refine wp_gop_f rfl ?_ | refine wp_gop_u ?_ | refine wp_gcall_t ?_ | refine wp_gcall_f rfl ?_ | refine wp_gcall_u ?_ | refine wp_ite_t ?_ | refine wp_ite_f ?_ | refine wp_faddr ?_ | refine wp_nilchk ?_ | refine wp_op (o := .mv _) rfl ?_ | refine wp_op (o := .pick _ _ _) rfl ?_ | refine wp_op (o := .extract _ _) rfl ?_)
      refine wp_saddr (i := m) H (by repeat (first | exact List.Mem.head _ | apply List.Mem.tail)) (tks_get hml) fun p4 o4 H => ?_
      repeat (first | refine wp_gop_t ?_ | refine wp_gop_f rfl ?_ | refine wp_gop_u ?_ | refine wp_gcall_t ?_ | refine wp_gcall_f rfl ?_ | refine wp_gcall_u ?_ | refine wp_ite_t ?_ | refine wp_ite_f ?_ | refine wp_faddr ?_ | refine wp_nilchk ?_ | refine wp_op (o := .mv _) rfl ?_ | refine wp_op (o := .pick _ _ _) rfl ?_ | refine wp_op (o := .extract _ _) rfl ?_)
      refine wp_load1 (id := p4) (off := o4) H (cs := l[m].cs) (by repeat (first | exact List.Mem.head _ | apply List.Mem.tail)) rfl ?_
      repeat (first | refine wp_gop_t ?_ | refine wp_gop_f rfl ?_ | refine wp_gop_u ?_ | refine wp_gcall_t ?_ | refine wp_gcall_f rfl ?_ | refine wp_gcall_u ?_ | refine wp_ite_t ?_ | refine wp_ite_f ?_ | refine wp_faddr ?_ | refine wp_nilchk ?_ | refine wp_op (o := .mv _) rfl ?_ | refine wp_op (o := .pick _ _ _) rfl ?_ | refine wp_op (o := .extract _ _) rfl ?_)
      refine wp_eql (fun c2 => ?_) (fun c2 => ?_)
      · repeat (first | refine wp_gop_t ?_ | refine wp_gop_f rfl ?_ | refine wp_gop_u ?_ | refine wp_gcall_t ?_ | refine wp_gcall_f rfl ?_ | refine wp_gcall_u ?_ | refine wp_ite_t ?_ | refine wp_ite_f ?_ | refine wp_faddr ?_ | refine wp_nilchk ?_ | refine wp_op (o := .mv _) rfl ?_ | refine wp_op (o := .pick _ _ _) rfl ?_ | refine wp_op (o := .extract _ _) rfl ?_)
        refine wp_lss (fun c3 => ?_) (fun c3 => ?_)
        · repeat (first | refine wp_gop_t ?_ | refine wp_gop_f rfl ?_ | refine wp_gop_u ?_ | refine wp_gcall_t ?_ | refine wp_gcall_f rfl ?_ | refine wp_gcall_u ?_ | refine wp_ite_t ?_ | refine wp_ite_f ?_ | refine wp_faddr ?_ | refine wp_nilchk ?_ | refine wp_op (o := .mv _) rfl ?_ | refine wp_op (o := .pick _ _ _) rfl ?_ | refine wp_op (o := .extract _ _) rfl ?_)
          exact fin _ _ (H.dropRo (by simp)) ⟨fun _ => hlt.2 (.inr ⟨c2, .inl c3⟩), fun _ => rfl⟩
        repeat (first | refine wp_gop_t ?_ | refine wp_gop_f rfl ?_ | refine wp_gop_u ?_ | refine wp_gcall_t ?_ | refine wp_gcall_f rfl ?_ | refine wp_gcall_u ?_ | refine wp_ite_t ?_ | refine wp_ite_f ?_ | refine wp_faddr ?_ | refine wp_nilchk ?_ | refine wp_op (o := .mv _) rfl ?_ | refine wp_op (o := .pick _ _ _) rfl ?_ | refine wp_op (o := .extract _ _) rfl ?_)
        refine wp_eql (fun c4 => ?_) (fun c4 => ?_)
        · repeat (first | refine wp_gop_t ?_ | refine wp_gop_f rfl ?_ | refine wp_gop_u ?_ | refine wp_gcall_t ?_ | refine wp_gcall_f rfl ?_ | refine wp_gcall_u ?_ | refine wp_ite_t ?_ | refine wp_ite_f ?_ | refine wp_faddr ?_ | refine wp_nilchk ?_ | refine wp_op (o := .mv _) rfl ?_ | refine wp_op (o := .pick _ _ _) rfl ?_ | refine wp_op (o := .extract _ _) rfl ?_)
          refine wp_lss (fun c5 => ?_) (fun c5 => ?_)
          · repeat (first | refine wp_gop_t ?_ | refine wp_gop_f rfl ?_ | refine wp_gop_u ?_ | refine wp_gcall_t ?_ | refine wp_gcall_f rfl ?_ | refine wp_gcall_u ?_ | refine wp_ite_t ?_ | refine wp_ite_f ?_ | refine wp_faddr ?_ | refine wp_nilchk ?_ | refine wp_op (o := .mv _) rfl ?_ | refine wp_op (o := .pick _ _ _) rfl ?_ | refine wp_op (o := .extract _ _) rfl ?_)
            exact fin _ _ (H.dropRo (by simp)) ⟨fun _ => hlt.2 (.inr ⟨c2, .inr ⟨c4, c5⟩⟩), fun _ => rfl⟩
          · repeat (first | refine wp_gop_t ?_ | refine wp_gop_f rfl ?_ | refine wp_gop_u ?_ | refine wp_gcall_t ?_ | refine wp_gcall_f rfl ?_ | refine wp_gcall_u ?_ | refine wp_ite_t ?_ | refine wp_ite_f ?_ | refine wp_faddr ?_ | refine wp_nilchk ?_ | refine wp_op (o := .mv _) rfl ?_ | refine wp_op (o := .pick _ _ _) rfl ?_ | refine wp_op (o := .extract _ _) rfl ?_)
            exact fin _ _ (H.dropRo (by simp)) ⟨fun h => by simp at h, fun h => by have := hlt.1 h; omega⟩
        · repeat (first | refine wp_gop_t ?_ | refine wp_gop_f rfl ?_ | refine wp_gop_u ?_ | refine wp_gcall_t ?_ | refine wp_gcall_f rfl ?_ | refine wp_gcall_u ?_ | refine wp_ite_t ?_ | refine wp_ite_f ?_ | refine wp_faddr ?_ | refine wp_nilchk ?_ | refine wp_op (o := .mv _) rfl ?_ | refine wp_op (o := .pick _ _ _) rfl ?_ | refine wp_op (o := .extract _ _) rfl ?_)
          exact fin _ _ (H.dropRo (by simp)) ⟨fun h => by simp at h, fun h => by have := hlt.1 h; omega⟩
      · repeat (first | refine wp_gop_t ?_ | refine wp_gop_f rfl ?_ | refine wp_gop_u ?_ | refine wp_gcall_t ?_ | refine wp_gcall_f rfl ?_ | refine wp_gcall_u ?_ | refine wp_ite_t ?_ | refine wp_ite_f ?_ | refine wp_faddr ?_ | refine wp_nilchk ?_ | refine wp_op (o := .mv _) rfl ?_ | refine wp_op (o := .pick _ _ _) rfl ?_ | refine wp_op (o := .extract _ _) rfl ?_)
        exact fin _ _ (H.dropRo (by simp)) ⟨fun h => by simp at h, fun h => by have := hlt.1 h; omega⟩
    · rw [show putk l[m].prio s' r' = .tup [U 0, I 3] from if_neg k2]
      repeat (first | refine wp_gop_t ?_ | refine wp_gop_f rfl ?_ | refine wp_gop_u ?_ | refine wp_gcall_t ?_ | refine wp_gcall_f rfl ?_ | refine wp_gcall_u ?_ | refine wp_ite_t ?_ | refine wp_ite_f ?_ | refine wp_faddr ?_ | refine wp_nilchk ?_ | refine wp_op (o := .mv _) rfl ?_ | refine wp_op (o := .pick _ _ _) rfl ?_ | refine wp_op (o := .extract _ _) rfl ?_)
      refine wp_eql_t rfl ?_
      repeat (first | refine wp_gop_t ?_ | refine wp_gop_f rfl ?_ | refine wp_gop_u ?_ | refine wp_gcall_t ?_ | refine wp_gcall_f rfl ?_ | refine wp_gcall_u ?_ | refine wp_ite_t ?_ | refine wp_ite_f ?_ | refine wp_faddr ?_ | refine wp_nilchk ?_ | refine wp_op (o := .mv _) rfl ?_ | refine wp_op (o := .pick _ _ _) rfl ?_ | refine wp_op (o := .extract _ _) rfl ?_)
      refine wp_eql_f (by omega) ?_
      repeat (first | refine wp_gop_t ?_ | refine wp_gop_f rfl ?_ | refine wp_gop_u ?_ | refine wp_gcall_t ?_ | refine wp_gcall_f rfl ?_ | refine wp_gcall_u ?_ | refine wp_ite_t ?_ | refine wp_ite_f ?_ | refine wp_faddr ?_ | refine wp_nilchk ?_ | refine wp_op (o := .mv _) rfl ?_ | refine wp_op (o := .pick _ _ _) rfl ?_ | refine wp_op (o := .extract _ _) rfl ?_)
      refine wp_bind ?_
      repeat (first | refine wp_gop_t ?_ | refine wp_gop_f rfl ?_ | refine wp_gop_u ?_ | refine wp_gcall_t ?_ | refine wp_gcall_f rfl ?_ | refine wp_gcall_u ?_ | refine wp_ite_t ?_ | refine wp_ite_f ?_ | refine wp_faddr ?_ | refine wp_nilchk ?_ | refine wp_op (o := .mv _) rfl ?_ | refine wp_op (o := .pick _ _ _) rfl ?_ | refine wp_op (o := .extract _ _) rfl ?_)
      refine wp_ret ?_
      exact rest S3 _ H
  · rw [show putk l[j].prio s r = .tup [U 0, I 3] from if_neg k1]
    repeat (first | refine wp_gop_t ?_ | refine wp_gop_f rfl ?_ | refine wp_gop_u ?_ | refine wp_gcall_t ?_ | refine wp_gcall_f rfl ?_ | refine wp_gcall_u ?_ | refine wp_ite_t ?_ | refine wp_ite_f ?_ | refine wp_faddr ?_ | refine wp_nilchk ?_ | refine wp_op (o := .mv _) rfl ?_ | refine wp_op (o := .pick _ _ _) rfl ?_ | refine wp_op (o := .extract _ _) rfl ?_)
    refine wp_callV H (key_ok (H.roSl (by repeat (first | exact List.Mem.head _ | apply List.Mem.tail)))) fun S3 H => ?_
    obtain ⟨kw, ke, hk⟩ := tkey_form l (m : Int) s' r'
    rw [hk]
    repeat (first | refine wp_gop_t ?_ | refine wp_gop_f rfl ?_ | refine wp_gop_u ?_ | refine wp_gcall_t ?_ | refine wp_gcall_f rfl ?_ | refine wp_gcall_u ?_ | refine wp_ite_t ?_ | refine wp_ite_f ?_ | refine wp_faddr ?_ | refine wp_nilchk ?_ | refine wp_op (o := .mv _) rfl ?_ | refine wp_op (o := .pick _ _ _) rfl ?_ | refine wp_op (o := .extract _ _) rfl ?_)
    refine wp_eql_f (by omega) ?_
    repeat (first | refine wp_gop_t ?_ | refine wp_gop_f rfl ?_ | refine wp_gop_u ?_ | refine wp_gcall_t ?_ | refine wp_gcall_f rfl ?_ | refine wp_gcall_u ?_ | refine wp_ite_t ?_ | refine wp_ite_f ?_ | refine wp_faddr ?_ | refine wp_nilchk ?_ | refine wp_op (o := .mv _) rfl ?_ | refine wp_op (o := .pick _ _ _) rfl ?_ | refine wp_op (o := .extract _ _) rfl ?_)
    refine wp_bind ?_
    repeat (first | refine wp_gop_t ?_ | refine wp_gop_f rfl ?_ | refine wp_gop_u ?_ | refine wp_gcall_t ?_ | refine wp_gcall_f rfl ?_ | refine wp_gcall_u ?_ | refine wp_ite_t ?_ | refine wp_ite_f ?_ | refine wp_faddr ?_ | refine wp_nilchk ?_ | refine wp_op (o := .mv _) rfl ?_ | refine wp_op (o := .pick _ _ _) rfl ?_ | refine wp_op (o := .extract _ _) rfl ?_)
    refine wp_ret ?_
    exact rest S3 _ H
end Go.Abs
