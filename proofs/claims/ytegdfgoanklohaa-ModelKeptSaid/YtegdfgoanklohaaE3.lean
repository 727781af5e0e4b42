/- functions of this cut: what they compute, in the abstract machine. Conditions: stated in each theorem -/
import Derived.Test.YtegdfgoanklohaaE2
set_option linter.unusedVariables false
set_option linter.unusedSimpArgs false
namespace Go.Abs
open Go.Proofs
set_option maxRecDepth 100000
set_option linter.unusedVariables false
open Tsk (Tk tks tchk tks_len tks_get)
section
variable {B0 S : AH} {W : List Nat} {own R : List Own} {ro : List Fct} {Q : Post} {k : AV → AC} {v v' : AV}
theorem amongK_ok {l : List Int} {a : Int} (hl : l.length < 1000000) (hv : RoSl S v 1 (ints l)) : wpC EM (.fn (.func 22) [] []) [v, I a] S fun r S' => r = B (decide (a ∈ l)) ∧ Grows S S' := by
  refine wpC_fn (b := Try.a22) rfl rfl ?_
  have H := Cx.ro1 hv
  unfold Try.a22 Try.a22x2 Try.a22x1 Try.a22x0
  refine wp_bind (wp_loop (wpL_for l.length (fun i vs S1 => ∃ w : AV, vs = [I (i : Int), w] ∧ a ∉ l.take i ∧ Cx S [] S1 [] [.sl v 1 (ints l)]) ?_ ?_ ⟨_, rfl, by simp, H⟩))
  · clear H
    rintro i vs S1 hlt ⟨w, rfl, hn, H⟩
    refine wp_len H (v := v) (es := 1) (L := ints l) (by repeat (first | exact List.Mem.head _ | apply List.Mem.tail)) ?_
    rw [ints_len]
    refine wp_lss_t (by omega) ?_
    repeat (first|refine zA ?_|refine zB rfl ?_|refine zC ?_|refine zD ?_|refine zE rfl ?_|refine zF ?_|refine zG ?_|refine zH ?_|refine zI ?_|refine zJ ?_|refine zK ?_|refine zL rfl ?_|refine zN rfl ?_)
    refine wp_bind ?_
    have hx : l[i]? = some l[i] := List.getElem?_eq_getElem hlt
    refine wp_saddr H (by repeat (first | exact List.Mem.head _ | apply List.Mem.tail)) (ints_get? hx) fun p o H => ?_
    refine wp_load0 H (cs := [I l[i]]) (by repeat (first | exact List.Mem.head _ | apply List.Mem.tail)) rfl ?_
    refine wp_eql (fun he => ?_) (fun he => ?_)
    · repeat (first|refine zA ?_|refine zB rfl ?_|refine zC ?_|refine zD ?_|refine zE rfl ?_|refine zF ?_|refine zG ?_|refine zH ?_|refine zI ?_|refine zJ ?_|refine zK ?_|refine zL rfl ?_|refine zN rfl ?_)
      exact wp_ret (.inr ⟨by simp, rfl, by rw [decide_eq_true (by rw [← he]; exact List.getElem_mem hlt)]; rfl, H.grows⟩)
    · repeat (first|refine zA ?_|refine zB rfl ?_|refine zC ?_|refine zD ?_|refine zE rfl ?_|refine zF ?_|refine zG ?_|refine zH ?_|refine zI ?_|refine zJ ?_|refine zK ?_|refine zL rfl ?_|refine zN rfl ?_)
      refine wp_ret ?_
      show wp EM _ _ _
      refine wp_add64 (by omega) (by omega) (wp_ret (.inl ⟨rfl, _, rfl, ?_, H.tl⟩))
      rw [List.take_succ_eq_append_getElem hlt, List.mem_append, List.mem_singleton]
      rintro (q | q)
      · exact hn q
      · exact he q.symm
  · clear H
    rintro vs S1 ⟨w, rfl, hn, H⟩
    rw [List.take_length] at hn
    refine wp_len H (v := v) (es := 1) (L := ints l) (by repeat (first | exact List.Mem.head _ | apply List.Mem.tail)) ?_
    rw [ints_len]
    refine wp_lss_f (by omega) ?_
    repeat (first|refine zA ?_|refine zB rfl ?_|refine zC ?_|refine zD ?_|refine zE rfl ?_|refine zF ?_|refine zG ?_|refine zH ?_|refine zI ?_|refine zJ ?_|refine zK ?_|refine zL rfl ?_|refine zN rfl ?_)
    refine wp_ret ⟨by simp, ?_⟩
    show wp EM _ _ _
    exact wp_ret ⟨rfl, by rw [decide_eq_false hn]; rfl, H.grows⟩
theorem hasK_ok {l : List Int} {a : Int} (hl : l.length < 1000000) (hv : RoSl S v 1 (uints l)) : wpC EM (.fn (.func 23) [] []) [v, U a] S fun r S' => r = B (decide (a ∈ l)) ∧ Grows S S' := by
  refine wpC_fn (b := Try.a23) rfl rfl ?_
  have H := Cx.ro1 hv
  unfold Try.a23 Try.a23x2 Try.a23x1 Try.a23x0
  refine wp_bind (wp_loop (wpL_for l.length (fun i vs S1 => ∃ w : AV, vs = [I (i : Int), w] ∧ a ∉ l.take i ∧ Cx S [] S1 [] [.sl v 1 (uints l)]) ?_ ?_ ⟨_, rfl, by simp, H⟩))
  · clear H
    rintro i vs S1 hlt ⟨w, rfl, hn, H⟩
    refine wp_len H (v := v) (es := 1) (L := uints l) (by repeat (first | exact List.Mem.head _ | apply List.Mem.tail)) ?_
    rw [uints_len]
    refine wp_lss_t (by omega) ?_
    repeat (first|refine zA ?_|refine zB rfl ?_|refine zC ?_|refine zD ?_|refine zE rfl ?_|refine zF ?_|refine zG ?_|refine zH ?_|refine zI ?_|refine zJ ?_|refine zK ?_|refine zL rfl ?_|refine zN rfl ?_)
    refine wp_bind ?_
    have hx : l[i]? = some l[i] := List.getElem?_eq_getElem hlt
    refine wp_saddr H (by repeat (first | exact List.Mem.head _ | apply List.Mem.tail)) (uints_get? hx) fun p o H => ?_
    refine wp_load0 H (cs := [U l[i]]) (by repeat (first | exact List.Mem.head _ | apply List.Mem.tail)) rfl ?_
    refine wp_eql (fun he => ?_) (fun he => ?_)
    · repeat (first|refine zA ?_|refine zB rfl ?_|refine zC ?_|refine zD ?_|refine zE rfl ?_|refine zF ?_|refine zG ?_|refine zH ?_|refine zI ?_|refine zJ ?_|refine zK ?_|refine zL rfl ?_|refine zN rfl ?_)
      exact wp_ret (.inr ⟨by simp, rfl, by rw [decide_eq_true (by rw [← he]; exact List.getElem_mem hlt)]; rfl, H.grows⟩)
    · repeat (first|refine zA ?_|refine zB rfl ?_|refine zC ?_|refine zD ?_|refine zE rfl ?_|refine zF ?_|refine zG ?_|refine zH ?_|refine zI ?_|refine zJ ?_|refine zK ?_|refine zL rfl ?_|refine zN rfl ?_)
      refine wp_ret ?_
      show wp EM _ _ _
      refine wp_add64 (by omega) (by omega) (wp_ret (.inl ⟨rfl, _, rfl, ?_, H.tl⟩))
      rw [List.take_succ_eq_append_getElem hlt, List.mem_append, List.mem_singleton]
      rintro (q | q)
      · exact hn q
      · exact he q.symm
  · clear H
    rintro vs S1 ⟨w, rfl, hn, H⟩
    rw [List.take_length] at hn
    refine wp_len H (v := v) (es := 1) (L := uints l) (by repeat (first | exact List.Mem.head _ | apply List.Mem.tail)) ?_
    rw [uints_len]
    refine wp_lss_f (by omega) ?_
    repeat (first|refine zA ?_|refine zB rfl ?_|refine zC ?_|refine zD ?_|refine zE rfl ?_|refine zF ?_|refine zG ?_|refine zH ?_|refine zI ?_|refine zJ ?_|refine zK ?_|refine zL rfl ?_|refine zN rfl ?_)
    refine wp_ret ⟨by simp, ?_⟩
    show wp EM _ _ _
    exact wp_ret ⟨rfl, by rw [decide_eq_false hn]; rfl, H.grows⟩
theorem withoutK_ok {l : List Int} {a : Int} (hl : l.length < 100000) (hv : RoSl S v 1 (ints l)) : wpC EM (.fn (.func 24) [] []) [v, I a] S fun r S' => Cx S [] S' [.sl r 1 (ints (l.filter fun b => decide (b ≠ a)))] [] := by
  refine wpC_fn (b := Try.a24) rfl rfl ?_
  have H := (Cx.ro1 hv).addNilS 1
  unfold Try.a24 Try.a24x3 Try.a24x2 Try.a24x1 Try.a24x0
  refine wp_bind (wp_loop (wpL_for l.length (fun i vs S1 => ∃ w : AV, vs = [I (i : Int), w] ∧ Cx S [] S1 [.sl w 1 (ints ((l.take i).filter fun b => decide (b ≠ a)))] [.sl v 1 (ints l)]) ?_ ?_ ⟨_, rfl, H⟩))
  · clear H
    rintro i vs S1 hlt ⟨w, rfl, H⟩
    refine wp_len H (v := v) (es := 1) (L := ints l) (by repeat (first | exact List.Mem.head _ | apply List.Mem.tail)) ?_
    rw [ints_len]
    refine wp_lss_t (by omega) ?_
    repeat (first|refine zA ?_|refine zB rfl ?_|refine zC ?_|refine zD ?_|refine zE rfl ?_|refine zF ?_|refine zG ?_|refine zH ?_|refine zI ?_|refine zJ ?_|refine zK ?_|refine zL rfl ?_|refine zN rfl ?_)
    refine wp_bind ?_
    have hx : l[i]? = some l[i] := List.getElem?_eq_getElem hlt
    refine wp_saddr H (v := v) (by repeat (first | exact List.Mem.head _ | apply List.Mem.tail)) (ints_get? hx) fun p o H => ?_
    refine wp_load0 H (cs := [I l[i]]) (by repeat (first | exact List.Mem.head _ | apply List.Mem.tail)) rfl ?_
    have hs : (l.take (i + 1)).filter (fun b => decide (b ≠ a)) = if l[i] ≠ a then (l.take i).filter (fun b => decide (b ≠ a)) ++ [l[i]] else (l.take i).filter (fun b => decide (b ≠ a)) := by
      rw [List.take_succ_eq_append_getElem hlt, List.filter_append]
      by_cases h : l[i] ≠ a
      · rw [if_pos h]; simp [h]
      · rw [if_neg h]
        have h := Decidable.not_not.1 h
        simp [h]
    refine wp_neq (fun he => ?_) (fun he => ?_)
    · rw [if_pos he] at hs
      refine wp_bind ?_
      repeat (first|refine zA ?_|refine zB rfl ?_|refine zC ?_|refine zD ?_|refine zE rfl ?_|refine zF ?_|refine zG ?_|refine zH ?_|refine zI ?_|refine zJ ?_|refine zK ?_|refine zL rfl ?_|refine zN rfl ?_)
      refine wp_saddr H (v := v) (by repeat (first | exact List.Mem.head _ | apply List.Mem.tail)) (ints_get? hx) fun p o H => ?_
      refine wp_load0 H (cs := [I l[i]]) (by repeat (first | exact List.Mem.head _ | apply List.Mem.tail)) rfl ?_
      have hle : (ints ((l.take i).filter fun b => decide (b ≠ a))).length ≤ i := by
        rw [ints_len]
        have := List.length_filter_le (fun b => decide (b ≠ a)) (l.take i)
        rw [List.length_take] at this; omega
      refine wp_push (x := I l[i]) H 0 rfl rfl rfl rfl (by unfold maxBytes; omega) (by unfold maxLenN; omega) fun v1 S2 H => ?_
      refine wp_ret ?_
      show wp EM _ _ _
      refine wp_ret ?_
      show wp EM _ _ _
      refine wp_add64 (by omega) (by omega) (wp_ret (.inl ⟨rfl, v1, rfl, ?_⟩))
      rw [hs, ints_app]
      exact H.tl.tl
    · rw [if_neg (by simpa using he)] at hs
      refine wp_bind ?_
      repeat (first|refine zA ?_|refine zB rfl ?_|refine zC ?_|refine zD ?_|refine zE rfl ?_|refine zF ?_|refine zG ?_|refine zH ?_|refine zI ?_|refine zJ ?_|refine zK ?_|refine zL rfl ?_|refine zN rfl ?_)
      refine wp_ret ?_
      show wp EM _ _ _
      refine wp_ret ?_
      show wp EM _ _ _
      refine wp_add64 (by omega) (by omega) (wp_ret (.inl ⟨rfl, w, rfl, ?_⟩))
      rw [hs]
      exact H.tl
  · clear H
    rintro vs S1 ⟨w, rfl, H⟩
    rw [List.take_length] at H
    refine wp_len H (v := v) (es := 1) (L := ints l) (by repeat (first | exact List.Mem.head _ | apply List.Mem.tail)) ?_
    rw [ints_len]
    refine wp_lss_f (by omega) ?_
    repeat (first|refine zA ?_|refine zB rfl ?_|refine zC ?_|refine zD ?_|refine zE rfl ?_|refine zF ?_|refine zG ?_|refine zH ?_|refine zI ?_|refine zJ ?_|refine zK ?_|refine zL rfl ?_|refine zN rfl ?_)
    refine wp_ret ⟨by simp, ?_⟩
    show wp EM _ _ _
    exact wp_ret ⟨rfl, H.tl⟩
theorem theseK_ok {L : List Lv} {l : List Int} (hL : L.length < 1000000) (hl : l.length < 1000000) (hv : RoSl S v 4 (lvs L)) (hv' : RoSl S v' 1 (ints l)) : wpC EM (.fn (.func 25) [] []) [v, v'] S fun r S' => r = B (decide ((∀ x ∈ L, x.job ∈ l) ∧ L.length = l.length)) ∧ Grows S S' := by
  refine wpC_fn (b := Try.a25) rfl rfl ?_
  have H := Cx.ro2 hv hv'
  unfold Try.a25 Try.a25x2 Try.a25x1 Try.a25x0
  refine wp_bind (wp_loop (wpL_for L.length (fun i vs S1 => ∃ w : AV, vs = [I (i : Int), w] ∧ (∀ x ∈ L.take i, x.job ∈ l) ∧ Cx S [] S1 [] [.sl v 4 (lvs L), .sl v' 1 (ints l)]) ?_ ?_ ⟨_, rfl, by simp, H⟩))
  · clear H
    rintro i vs S1 hlt ⟨w, rfl, hn, H⟩
    refine wp_len H (v := v) (es := 4) (L := lvs L) (by repeat (first | exact List.Mem.head _ | apply List.Mem.tail)) ?_
    rw [lvs_len]
    refine wp_lss_t (by omega) ?_
    repeat (first|refine zA ?_|refine zB rfl ?_|refine zC ?_|refine zD ?_|refine zE rfl ?_|refine zF ?_|refine zG ?_|refine zH ?_|refine zI ?_|refine zJ ?_|refine zK ?_|refine zL rfl ?_|refine zN rfl ?_)
    refine wp_bind ?_
    have hx : L[i]? = some L[i] := List.getElem?_eq_getElem hlt
    refine wp_saddr H (v := v) (es := 4) (L := lvs L) (by repeat (first | exact List.Mem.head _ | apply List.Mem.tail)) (lvs_get? hx) fun p o H => ?_
    repeat (first|refine zA ?_|refine zB rfl ?_|refine zC ?_|refine zD ?_|refine zE rfl ?_|refine zF ?_|refine zG ?_|refine zH ?_|refine zI ?_|refine zJ ?_|refine zK ?_|refine zL rfl ?_|refine zN rfl ?_)
    refine wp_load1 (j := 0) H (cs := (L[i]).cs) (by repeat (first | exact List.Mem.head _ | apply List.Mem.tail)) rfl ?_
    refine wp_callV H (amongK_ok (l := l) (a := L[i].job) hl (H.roSl (by repeat (first | exact List.Mem.head _ | apply List.Mem.tail)))) fun S2 H => ?_
    by_cases hm : L[i].job ∈ l
    · rw [decide_eq_true hm]
      refine wp_notT ?_
      repeat (first|refine zA ?_|refine zB rfl ?_|refine zC ?_|refine zD ?_|refine zE rfl ?_|refine zF ?_|refine zG ?_|refine zH ?_|refine zI ?_|refine zJ ?_|refine zK ?_|refine zL rfl ?_|refine zN rfl ?_)
      refine wp_ret ?_
      show wp EM _ _ _
      refine wp_add64 (by omega) (by omega) (wp_ret (.inl ⟨rfl, _, rfl, ?_, H.tl⟩))
      rw [List.take_succ_eq_append_getElem hlt]
      intro x hx
      rcases List.mem_append.1 hx with hx | hx
      · exact hn x hx
      · rw [List.mem_singleton.1 hx]; exact hm
    · rw [decide_eq_false hm]
      refine wp_notF ?_
      repeat (first|refine zA ?_|refine zB rfl ?_|refine zC ?_|refine zD ?_|refine zE rfl ?_|refine zF ?_|refine zG ?_|refine zH ?_|refine zI ?_|refine zJ ?_|refine zK ?_|refine zL rfl ?_|refine zN rfl ?_)
      exact wp_ret (.inr ⟨by simp, rfl, by rw [decide_eq_false fun q => hm (q.1 _ (List.getElem_mem hlt))]; rfl, H.grows⟩)
  · clear H
    rintro vs S1 ⟨w, rfl, hn, H⟩
    rw [List.take_length] at hn
    refine wp_len H (v := v) (es := 4) (L := lvs L) (by repeat (first | exact List.Mem.head _ | apply List.Mem.tail)) ?_
    rw [lvs_len]
    refine wp_lss_f (by omega) ?_
    repeat (first|refine zA ?_|refine zB rfl ?_|refine zC ?_|refine zD ?_|refine zE rfl ?_|refine zF ?_|refine zG ?_|refine zH ?_|refine zI ?_|refine zJ ?_|refine zK ?_|refine zL rfl ?_|refine zN rfl ?_)
    refine wp_ret ⟨by simp, ?_⟩
    show wp EM _ _ _
    refine wp_len H (v := v) (es := 4) (L := lvs L) (by repeat (first | exact List.Mem.head _ | apply List.Mem.tail)) ?_
    refine wp_len H (v := v') (es := 1) (L := ints l) (by repeat (first | exact List.Mem.head _ | apply List.Mem.tail)) ?_
    rw [lvs_len, ints_len]
    refine wp_op e_eql ?_
    refine wp_ret ⟨rfl, ?_, H.grows⟩
    have : decide ((L.length : Int) = (l.length : Int)) = decide ((∀ x ∈ L, x.job ∈ l) ∧ L.length = l.length) := decide_eq_decide.2 ⟨fun q => ⟨hn, by omega⟩, fun q => by have := q.2; omega⟩
    rw [this]; rfl
/-- the rest of one's own slice -/
theorem wp_fromO {M : Mach} (H : Cx B0 W S own ro) (n : Nat) {v : AV} {es i : Nat} {L : List (List AV)} (hm : own[n]? = some (.sl v es L)) (hi : i ≤ L.length)
    (h : ∀ v', Cx B0 W S (own.set n (.sl v' es (L.drop i))) ro → wp M (k v') S Q) : wp M (.op (.sslice es v (some (I (i : Int))) none none) k) S Q := by
  have hmem := List.mem_of_getElem? hm
  have hs := H.oh _ hmem
  rcases hs with ⟨rfl, rfl⟩ | ⟨id, off, c, h0, h1, h2, h3⟩
  · have : i = 0 := by simpa using hi
    subst this
    exact wp_op (v := Ns) rfl (h Ns (H.step hm (Nat.le_refl _) (fun _ _ _ => rfl) (.inl ⟨rfl, by simp⟩) fun id hid => by simp [Own.ids, vids] at hid))
  · obtain ⟨v', off', e1, e2, e3⟩ := slForm_from (M := M) (S := S) h0 hi
    have hle := Nat.mul_le_mul_right es hi
    have hsub : (L.length - i) * es = L.length * es - i * es := Nat.sub_mul ..
    refine wp_op e1 (h v' (H.step hm (Nat.le_refl _) (fun _ _ _ => rfl) (.inr ⟨id, off', c, by rw [List.length_drop]; exact e2, h1, ?_, fun x hx => h3 x (List.mem_of_mem_drop hx)⟩) fun j hj => ?_))
    · rw [List.length_drop]
      by_cases hlt : i < L.length
      · rw [e3 hlt, ← dr_flat h3, ← h2, List.drop_take, List.drop_drop, hsub]
      · have : L.length - i = 0 := by omega
        have hd : L.drop i = [] := List.drop_eq_nil_of_le (by omega)
        rw [this, hd, Nat.zero_mul]; rfl
    · have hj' : j ∈ Own.ids (.sl v es L) := by
        simp only [Own.ids] at hj ⊢
        rw [h0.ids]; rw [e2.ids] at hj; exact hj
      exact ⟨(H.oi _ hmem j hj').1, .inl hj'⟩
theorem wp_mksliceN {M : Mach} {z : List AV} {es bytes n : Nat} (hz : z.length = es) (H : Cx B0 W S own ro) (hb : bytes * n ≤ 140737488355328) (hn : n ≤ 9223372036854775807)
    (h : ∀ t S1, Cx B0 W S1 (.sl t es (List.replicate n z) :: own) ro → wp M (k t) S1 Q) : wp M (.op (.mkslice es bytes z (I (n : Int)) (I (n : Int))) k) S Q := by
  have hr : ∀ m : Nat, repZero z m = (List.replicate m z).flatten := by
    intro m
    induction m with
    | zero => rfl
    | succ m ih =>
      show appL z (repZero z m) = _
      rw [ih, appL_eq]; rfl
  have hl : ∀ m : Nat, (List.replicate m z).flatten.length = m * es := by
    intro m
    induction m with
    | zero => simp
    | succ m ih => rw [List.replicate_succ, List.flatten_cons, List.length_append, ih, hz, Nat.succ_mul]; omega
  have hnat : nat? (n : Int) = some n := by
    unfold nat?
    rfl
  refine wp_op (v := .sl S.next 0 n n) (S1 := S.new (.row (List.replicate n z).flatten)) ?_ (h _ _ (H.addOwn (Grows.new S _) (.inr ⟨S.next, 0, (List.replicate n z).flatten, .inl ⟨n, by simp, by rw [hl]; omega, by simp⟩, get_new_same _ _, ?_, ?_⟩) ?_))
  · show nMkslice es bytes z (I (n : Int)) (I (n : Int)) S = _
    unfold nMkslice
    simp only [asInt, vInt, hnat]
    have e : (Nat.ble n n && Nat.ble (Nat.mul bytes n) 140737488355328 && Nat.ble n 9223372036854775807 && Nat.beq (lenL z) es) = true := by
      have hb' : Nat.ble (Nat.mul bytes n) 140737488355328 = true := ble_t hb
      rw [ble_t (Nat.le_refl n), hb', ble_t hn, lenL_eq, hz, Nat.beq_refl]; rfl
    rw [e, hr]
    rfl
  · rw [List.drop_zero, List.length_replicate, List.take_of_length_le (by rw [hl]; exact Nat.le_refl _)]
  · intro x hx
    rw [(List.mem_replicate.1 hx).2]; exact hz
  · intro j hj
    simp only [Own.ids, vids, List.mem_singleton] at hj
    subst hj
    simp
end
end Go.Abs
namespace Go.Abs
open Go.Proofs
set_option maxRecDepth 100000
set_option linter.unusedVariables false
open Tsk (Tk tks tchk)
/-! ### what has been told -/
structure Gh where
  keys : List Int
  live : List Int
  mail : List (List (Int × Int))
  runs : List (Int × Int)
  last : List Int
def box2 (s : Ms) (l : List Int) : List (Int × Int) := l.map fun i => (i, keyAt s i)
structure GRel (s : Ms) (g : Gh) : Prop where
  ln : g.live.Nodup
  lb : ∀ a ∈ g.live, 0 ≤ a ∧ a < s.jobs.length
  lv : ∀ (i : Nat) y, s.jobs[i]? = some y → (y.st ≠ 1 ↔ (i : Int) ∈ g.live)
  ks : ∀ k ∈ g.keys, k / 65536 % 1099511627776 ≤ s.seq
  ll : g.last.length = s.T.length
  la : ∀ (t : Nat) a p, g.last[t]? = some a → s.T[t]? = some p → a < kword p.prio (s.seq + 1) 0
  ml : g.mail = s.mail.map (box2 s)
  rl : g.runs.length = s.runs.length
  rk : ∀ (c : Nat) i, s.runs[c]? = some i → i ≠ -1 → g.runs[c]? = some (i, keyAt s i)
theorem keyAt_set {s s' : Ms} {n : Nat} {y : Lv} (hj : s'.jobs = s.jobs.set n y) {i : Int} (hi : i.toNat ≠ n) : keyAt s' i = keyAt s i := by
  unfold keyAt
  rw [hj, List.getElem?_set, if_neg fun h => hi h.symm]
theorem keyAt_at {s s' : Ms} {n : Nat} {y : Lv} (hj : s'.jobs = s.jobs.set n y) (hn : n < s.jobs.length) : keyAt s' (n : Int) = y.key := by
  unfold keyAt
  rw [hj, Int.toNat_natCast, List.getElem?_set, if_pos rfl, if_pos hn]
theorem keyAt_of {s : Ms} {n : Nat} {y : Lv} (h : s.jobs[n]? = some y) : keyAt s (n : Int) = y.key := by
  unfold keyAt
  rw [Int.toNat_natCast, h]
theorem keyAt_same {s s' : Ms} (hj : s'.jobs = s.jobs) (i : Int) : keyAt s' i = keyAt s i := by unfold keyAt; rw [hj]
/-- boxes tell the same where nothing in them has turned -/
theorem box2_same {s s' : Ms} {l : List Int} (h : ∀ i ∈ l, keyAt s' i = keyAt s i) : box2 s' l = box2 s l := List.map_congr_left fun i hi => by rw [h i hi]
theorem mail_same {s s' : Ms} {L : List (List Int)} (h : ∀ l ∈ L, ∀ i ∈ l, keyAt s' i = keyAt s i) : L.map (box2 s') = L.map (box2 s) := List.map_congr_left fun l hl => box2_same (h l hl)
/-- nothing that it knows of has turned but flags, times, the sequence -/
theorem GRel.same {s s' : Ms} {g : Gh} (G : GRel s g) (h1 : s'.jobs = s.jobs) (h2 : s'.mail = s.mail) (h3 : s'.runs = s.runs) (h4 : s'.T = s.T) (h5 : s.seq ≤ s'.seq) : GRel s' g where
  ln := G.ln
  lb := by rw [h1]; exact G.lb
  lv := by rw [h1]; exact G.lv
  ks := fun k hk => Int.le_trans (G.ks k hk) h5
  ll := by rw [h4]; exact G.ll
  la := fun t a p ha hp => by
    rw [h4] at hp
    have := G.la t a p ha hp
    unfold kword at *
    omega
  ml := by rw [G.ml, h2]; exact (mail_same fun l hl i hi => keyAt_same h1 i).symm
  rl := by rw [h3]; exact G.rl
  rk := fun c i hr hi => by rw [h3] at hr; rw [keyAt_same h1]; exact G.rk c i hr hi
theorem GRel.bal {s s' : Ms} {g : Gh} (G : GRel s g) (b : Bal s s') : GRel s' g := by
  obtain ⟨h1, h2, h3, h4, h5, h6, h7, h8⟩ := b.same
  exact G.same h1 h5 h6 h3 (by omega)
theorem keyAt_bal {s s' : Ms} (b : Bal s s') (i : Int) : keyAt s' i = keyAt s i := keyAt_same b.same.1 i
/-- who is in a mailbox -/
theorem InvB.inMail {s : Ms} (h : InvB s) {l : List Int} {i : Int} (hl : l ∈ s.mail) (hi : i ∈ l) : ∃ (n : Nat) (y : Lv), i = n ∧ s.jobs[n]? = some y ∧ y.st = 2 := by
  have hb := (h.wf.mb l hl).2 i hi
  obtain ⟨n, rfl⟩ : ∃ n : Nat, i = (n : Int) := ⟨i.toNat, by omega⟩
  obtain ⟨y, hy, _⟩ := h.wf.job (i := n) (by omega)
  exact ⟨n, y, rfl, hy, (h.ma n y hy).2 (List.mem_flatten.2 ⟨l, hl, hi⟩)⟩
theorem RelR.kept {s s' : Ms} {g : Gh} {t : Nat} {now r e : Int} (h : InvB s) (G : GRel s g) (p : RelR s t now r e s') :
    (e ≠ 0 ∧ GRel s' g) ∨ (e = 0 ∧ 0 ≤ r ∧ r ∉ g.live ∧ (∃ la, g.last[t]? = some la ∧ la < keyAt s' r) ∧ keyAt s' r ∉ g.keys ∧ ∃ (hh : Nat) (bl : List (Int × Int)), (hh : Int) = (t : Int) % s.su.cores ∧ g.mail[hh]? = some bl ∧
      GRel s' ⟨g.keys ++ [keyAt s' r], g.live ++ [r], g.mail.set hh (bl ++ [(r, keyAt s' r)]), g.runs, g.last.set t (keyAt s' r)⟩) := by
  have hs0 := h.wf.sq
  obtain ⟨last, a, h1, h2, p⟩ := p
  have hab := tone_bd ((tchk_all h.wf.chk).2 a (List.mem_of_getElem? h2))
  rcases p with ⟨_, _, rfl, rfl, rfl⟩ | ⟨_, ⟨_, rfl, rfl, rfl⟩ | ⟨i, f, hf, ⟨_, rfl, rfl, rfl⟩ | ⟨h4, hh, box, h5, h6, ⟨_, rfl, rfl, rfl⟩ | ⟨h7, rfl, rfl, rfl⟩⟩⟩⟩
  · exact .inl ⟨by omega, G⟩
  · exact .inl ⟨by omega, G.same rfl rfl rfl rfl (Int.le_refl _)⟩
  · exact .inl ⟨by omega, G.same rfl rfl rfl rfl (by show s.seq ≤ s.seq + 1; omega)⟩
  · exact .inl ⟨by omega, G.same rfl rfl rfl rfl (by show s.seq ≤ s.seq + 1; omega)⟩
  · have hib := h.wf.fb r (by rw [hf]; exact List.mem_cons_self ..)
    obtain ⟨n, rfl⟩ : ∃ n : Nat, r = (n : Int) := ⟨r.toNat, by omega⟩
    have hn : n < s.jobs.length := by omega
    obtain ⟨y, hy, _⟩ := h.wf.job hn
    have hst : y.st = 1 := (h.fr n y hy).2 (by rw [hf]; exact List.mem_cons_self ..)
    have hnl : (n : Int) ∉ g.live := fun hm => (G.lv n y hy).2 hm hst
    generalize hs' : Ms.rel { s with passed := s.passed.set t now, seq := s.seq + 1 } (n : Int) f hh box (kword a.prio (s.seq + 1) 0) = s'
    have hj : s'.jobs = s.jobs.set n ⟨(n : Int), 2, 0, kword a.prio (s.seq + 1) 0⟩ := by rw [← hs']; show s.jobs.set _ _ = _; rw [Int.toNat_natCast]
    have hk : keyAt s' (n : Int) = kword a.prio (s.seq + 1) 0 := keyAt_at hj hn
    have hseq : s'.seq = s.seq + 1 := by rw [← hs']; rfl
    have hT : s'.T = s.T := by rw [← hs']; rfl
    have hruns : s'.runs = s.runs := by rw [← hs']; rfl
    have hmail : s'.mail = s.mail.set hh (box ++ [(n : Int)]) := by rw [← hs']; rfl
    have htl : t < g.last.length := by rw [G.ll]; exact (List.getElem?_eq_some_iff.1 h2).1
    have hla : g.last[t]? = some g.last[t] := List.getElem?_eq_getElem htl
    have hgm : g.mail[hh]? = some (box2 s box) := by rw [G.ml, List.getElem?_map, h6]; rfl
    have hsame : ∀ l ∈ s.mail, ∀ i ∈ l, keyAt s' i = keyAt s i := fun l hl i hi => by
      obtain ⟨q, z, rfl, hz, hz2⟩ := h.inMail hl hi
      refine keyAt_set hj ?_
      rw [Int.toNat_natCast]
      rintro rfl
      rw [hy] at hz; cases hz; omega
    rw [hk]
    refine .inr ⟨rfl, by omega, hnl, ⟨_, hla, G.la t _ a hla h2⟩, ?_, hh, _, h5, hgm, ?_⟩
    · intro hm
      have := G.ks _ hm
      have hq : kword a.prio (s.seq + 1) 0 / 65536 % 1099511627776 = s.seq + 1 := by unfold kword; omega
      omega
    · refine ⟨?_, ?_, ?_, ?_, ?_, ?_, ?_, ?_, ?_⟩
      · show (g.live ++ [(n : Int)]).Nodup
        have : (g.live ++ [(n : Int)]).Perm ((n : Int) :: g.live) := by simp
        rw [this.nodup_iff, List.nodup_cons]
        exact ⟨hnl, G.ln⟩
      · intro b hb
        rw [hj, List.length_set]
        rcases List.mem_append.1 hb with hb | hb
        · exact G.lb b hb
        · rw [List.mem_singleton.1 hb]; omega
      · intro i z hz
        rw [hj] at hz
        show z.st ≠ 1 ↔ (i : Int) ∈ g.live ++ [(n : Int)]
        rw [List.mem_append, List.mem_singleton]
        rcases set_get hz hn with ⟨rfl, rfl⟩ | ⟨hi, hz⟩
        · exact ⟨fun _ => .inr rfl, fun _ => by show (2 : Int) ≠ 1; omega⟩
        · rw [G.lv i z hz]
          exact ⟨.inl, fun q => by rcases q with q | q; exact q; exact absurd (Int.ofNat.inj q) hi⟩
      · intro k hkm
        rw [hseq]
        rcases List.mem_append.1 hkm with hkm | hkm
        · have := G.ks k hkm; omega
        · rw [List.mem_singleton.1 hkm]; unfold kword; omega
      · show (g.last.set t _).length = _
        rw [List.length_set, hT]; exact G.ll
      · intro t2 b p2 hb hp2
        rw [hT] at hp2
        rw [hseq]
        rcases set_get hb htl with ⟨rfl, rfl⟩ | ⟨ht2, hb⟩
        · rw [h2] at hp2; cases hp2
          unfold kword; omega
        · have := G.la t2 b p2 hb hp2
          unfold kword at *; omega
      · show g.mail.set hh (box2 s box ++ [((n : Int), kword a.prio (s.seq + 1) 0)]) = s'.mail.map (box2 s')
        have hm2 : box ∈ s.mail := List.mem_of_getElem? h6
        have e : box2 s' (box ++ [(n : Int)]) = box2 s box ++ [((n : Int), kword a.prio (s.seq + 1) 0)] := by
          have e1 : box2 s' (box ++ [(n : Int)]) = box2 s' box ++ [((n : Int), keyAt s' (n : Int))] := by unfold box2; rw [List.map_append]; rfl
          rw [e1, hk, box2_same (hsame box hm2)]
        rw [hmail, List.map_set, mail_same hsame, e, G.ml]
      · show g.runs.length = _
        rw [hruns]; exact G.rl
      · intro c i hr hi
        rw [hruns] at hr
        obtain ⟨q, rfl, z, hz, _⟩ := h.wf.run hr hi
        have : keyAt s' (q : Int) = keyAt s (q : Int) := keyAt_set hj (by
          rw [Int.toNat_natCast]
          rintro rfl
          have := (h.runs hr hy).1
          omega)
        rw [this]
        exact G.rk c q hr hi
theorem TakeR.kept {s s' : Ms} {g : Gh} {c : Nat} {r e : Int} (h : InvB s) (G : GRel s g) (p : TakeR s c r e s') :
    (e ≠ 0 ∧ e = 15 ∧ g.mail[c]? = some [] ∧ GRel s' g) ∨ (e = 0 ∧ 0 ≤ r ∧ ∃ bl, g.mail[c]? = some ((r, keyAt s' r) :: bl) ∧ GRel s' { g with mail := g.mail.set c bl }) := by
  rcases p with ⟨h1, rfl, rfl, rfl⟩ | ⟨i, l, y, h1, h2, rfl, rfl, hb⟩
  · exact .inl ⟨by omega, rfl, by rw [G.ml, List.getElem?_map, h1]; rfl, G⟩
  · have hib := (h.wf.mb _ (List.mem_of_getElem? h1)).2 r (List.mem_cons_self ..)
    obtain ⟨n, rfl⟩ : ∃ n : Nat, r = (n : Int) := ⟨r.toNat, by omega⟩
    rw [Int.toNat_natCast] at h2
    have hn := (List.getElem?_eq_some_iff.1 h2).1
    have hyj : y.job = (n : Int) := h.wf.jj _ _ h2
    have hj : (s.takes c y l).jobs = s.jobs.set n { y with st := 3 } := by show s.jobs.set _ _ = _; rw [hyj, Int.toNat_natCast]
    have hst : y.st = 2 := by
      have := h.inMail (List.mem_of_getElem? h1) (List.mem_cons_self ..)
      obtain ⟨q, z, hq, hz, hz2⟩ := this
      have : q = n := by omega
      subst this
      rw [h2] at hz; cases hz; exact hz2
    have hkn : keyAt (s.takes c y l) (n : Int) = keyAt s (n : Int) := by rw [keyAt_at hj hn, keyAt_of h2]
    have hka : ∀ i : Int, keyAt (s.takes c y l) i = keyAt s i := fun i => by
      by_cases hi : i.toNat = n
      · unfold keyAt
        rw [hj, hi, List.getElem?_set, if_pos rfl, if_pos hn, h2]
      · exact keyAt_set hj hi
    have G1 : GRel (s.takes c y l) { g with mail := g.mail.set c (box2 s l) } := by
      refine ⟨G.ln, ?_, ?_, G.ks, G.ll, G.la, ?_, G.rl, ?_⟩
      · rw [hj, List.length_set]; exact G.lb
      · intro i z hz
        rw [hj] at hz
        rcases set_get hz hn with ⟨rfl, rfl⟩ | ⟨hi, hz⟩
        · rw [← G.lv _ y h2, hst]; show (3 : Int) ≠ 1 ↔ _; simp
        · exact G.lv i z hz
      · show g.mail.set c (box2 s l) = (s.mail.set c l).map (box2 (s.takes c y l))
        rw [List.map_set, mail_same fun l _ i _ => hka i, box2_same fun i _ => hka i, G.ml]
      · intro d i hr hi
        rw [hka]
        exact G.rk d i hr hi
    refine .inr ⟨rfl, by omega, box2 s l, ?_, G1.bal hb⟩
    rw [keyAt_bal hb, hkn, G.ml, List.getElem?_map, h1]; rfl
def toldOf (s : Ms) (r : Int) : Int × Int := if r ≠ -1 then (r, keyAt s r) else (0, 0)
theorem PickR.kept {s s' : Ms} {g : Gh} {c : Nat} {r e : Int} (h : InvB s) (G : GRel s g) (p : PickR s c r e s') : (e ≠ 0 ∧ GRel s' g) ∨ (e = 0 ∧ GRel s' { g with runs := g.runs.set c (toldOf s' r) }) := by
  rcases p with ⟨i, h1, h2, rfl, rfl, rfl⟩ | ⟨h1, h2, rfl, rfl, rfl⟩ | ⟨z, h1, hz, rfl, rfl, hb⟩
  · exact .inl ⟨by omega, G⟩
  · exact .inl ⟨by omega, G⟩
  · obtain ⟨n, h3, h4, h5⟩ := h.wf.least hz
    have hn := (List.getElem?_eq_some_iff.1 h4).1
    have hc := (List.getElem?_eq_some_iff.1 h1).1
    have hj : (s.claim c z).jobs = s.jobs.set n ⟨z.job, 4, c, z.key⟩ := by show s.jobs.set _ _ = _; rw [h3, Int.toNat_natCast]
    have hka : ∀ i : Int, keyAt (s.claim c z) i = keyAt s i := fun i => by
      by_cases hi : i.toNat = n
      · unfold keyAt
        rw [hj, hi, List.getElem?_set, if_pos rfl, if_pos hn, h4]
      · exact keyAt_set hj hi
    have ht : toldOf s' z.job = (z.job, keyAt s z.job) := by unfold toldOf; rw [if_pos (by omega), keyAt_bal hb, hka]
    have G1 : GRel (s.claim c z) { g with runs := g.runs.set c (z.job, keyAt s z.job) } := by
      refine ⟨G.ln, ?_, ?_, G.ks, G.ll, G.la, ?_, ?_, ?_⟩
      · rw [hj, List.length_set]; exact G.lb
      · intro i w hw
        rw [hj] at hw
        rcases set_get hw hn with ⟨rfl, rfl⟩ | ⟨hi, hw⟩
        · rw [← G.lv _ z h4, h5]; show (4 : Int) ≠ 1 ↔ _; simp
        · exact G.lv i w hw
      · show g.mail = s.mail.map (box2 (s.claim c z))
        rw [mail_same fun l _ i _ => hka i, G.ml]
      · show (g.runs.set c _).length = (s.runs.set c _).length
        rw [List.length_set, List.length_set]; exact G.rl
      · intro d i hr hi
        have hr : (s.runs.set c z.job)[d]? = some i := hr
        show (g.runs.set c _)[d]? = _
        rw [hka]
        rcases (runs_set hc).1 hr with ⟨rfl, rfl⟩ | ⟨hd, hr⟩
        · rw [List.getElem?_set, if_pos rfl, if_pos (by rw [G.rl]; exact hc)]
        · rw [List.getElem?_set, if_neg fun q => hd q.symm]
          exact G.rk d i hr hi
    refine .inr ⟨rfl, ?_⟩
    rw [ht]
    exact G1.bal hb
/-- behind a job that is given up -/
theorem GRel.gives {s : Ms} {g : Gh} (h : InvB s) (G : GRel s g) {c n : Nat} {y : Lv} (hr : s.runs[c]? = some (n : Int)) (hy : s.jobs[n]? = some y) : GRel (s.gives c y) g := by
  have hn := (List.getElem?_eq_some_iff.1 hy).1
  have hc := (List.getElem?_eq_some_iff.1 hr).1
  have hyj : y.job = (n : Int) := h.wf.jj _ _ hy
  have hst := (h.runs hr hy).1
  have hj : (s.gives c y).jobs = s.jobs.set n ⟨y.job, 3, 0, y.key + 1⟩ := by show s.jobs.set _ _ = _; rw [hyj, Int.toNat_natCast]
  refine ⟨G.ln, ?_, ?_, G.ks, G.ll, G.la, ?_, ?_, ?_⟩
  · rw [hj, List.length_set]; exact G.lb
  · intro i w hw
    rw [hj] at hw
    rcases set_get hw hn with ⟨rfl, rfl⟩ | ⟨hi, hw⟩
    · rw [← G.lv _ y hy, hst]; show (3 : Int) ≠ 1 ↔ _; simp
    · exact G.lv i w hw
  · show g.mail = s.mail.map (box2 (s.gives c y))
    rw [mail_same fun l hl i hi => ?_, G.ml]
    obtain ⟨q, z, rfl, hz, hz2⟩ := h.inMail hl hi
    refine keyAt_set hj ?_
    rw [Int.toNat_natCast]
    rintro rfl
    rw [hy] at hz; cases hz; omega
  · show g.runs.length = (s.runs.set c _).length
    rw [List.length_set]; exact G.rl
  · intro d i hd hi
    have hd : (s.runs.set c (-1))[d]? = some i := hd
    rcases (runs_set hc).1 hd with ⟨rfl, rfl⟩ | ⟨hne, hd⟩
    · exact absurd rfl hi
    · obtain ⟨q, rfl, z, hz, _⟩ := h.wf.run hd hi
      have : keyAt (s.gives c y) (q : Int) = keyAt s (q : Int) := keyAt_set hj (by
        rw [Int.toNat_natCast]
        rintro rfl
        have h1 := (h.runs hd hy).2
        have h2 := (h.runs hr hy).2
        exact hne (by omega))
      rw [this]
      exact G.rk d q hd hi
theorem ThenPick.kept {s s' : Ms} {g : Gh} {c : Nat} {r e : Int} (h : InvB s) (hr : s.runs[c]? = some (-1)) (G : GRel s g) (p : ThenPick s c r e s') : (e ≠ 0 ∧ GRel s' g) ∨ (e = 0 ∧ GRel s' { g with runs := g.runs.set c (toldOf s' r) }) := by
  obtain ⟨r0, e0, hp, he⟩ := p
  have hk := hp.kept h G
  by_cases h15 : e0 = 15
  · rw [if_pos h15] at he
    obtain ⟨rfl, rfl⟩ := he
    rcases hk with ⟨_, hk⟩ | ⟨q, _⟩
    · refine .inr ⟨rfl, ?_⟩
      have hs' : s'.runs[c]? = some (-1) := by
        rcases hp with ⟨i, h1, h2, h3, h4, rfl⟩ | ⟨h1, h2, h3, h4, rfl⟩ | ⟨z, h1, hz, h3, h4, hb⟩
        · exact hr
        · exact hr
        · omega
      refine ⟨hk.ln, hk.lb, hk.lv, hk.ks, hk.ll, hk.la, hk.ml, ?_, ?_⟩
      · show (g.runs.set c _).length = _
        rw [List.length_set]; exact hk.rl
      · intro d i hd hi
        show (g.runs.set c _)[d]? = _
        have hne : c ≠ d := by
          rintro rfl
          rw [hs'] at hd; cases hd; exact hi rfl
        rw [List.getElem?_set, if_neg hne]
        exact hk.rk d i hd hi
    · omega
  · rw [if_neg h15] at he
    obtain ⟨rfl, rfl⟩ := he
    exact hk
theorem ServeR.kept {s s' : Ms} {g : Gh} {c : Nat} {r e : Int} (h : InvB s) (G : GRel s g) (p : ServeR s c r e s') : (e ≠ 0 ∧ GRel s' g) ∨ (e = 0 ∧ GRel s' { g with runs := g.runs.set c (toldOf s' r) }) := by
  have Gd : GRel (s.drops c) g := G.same rfl rfl rfl rfl (Int.le_refl _)
  rcases p with ⟨h1, rfl, rfl, rfl⟩ | ⟨h1, h2, hp⟩ | ⟨i, y, h1, h2, h3, h4, ⟨h5, rfl, rfl, rfl⟩ | ⟨h5, hp⟩⟩
  · exact .inl ⟨by omega, G⟩
  · exact hp.kept h.drops h2 Gd
  · exact .inl ⟨by omega, Gd⟩
  · obtain ⟨n, rfl, y', hy', _⟩ := h.wf.run h2 h3
    rw [Int.toNat_natCast, hy'] at h4
    cases h4
    refine hp.kept (h.gives h2 hy' h5) ?_ (G.gives h h2 hy')
    show (s.runs.set _ (-1))[_]? = _
    rw [List.getElem?_set]
    simp [(List.getElem?_eq_some_iff.1 h2).1]
theorem EndR.kept {s s' : Ms} {g : Gh} {c : Nat} {r e : Int} (h : InvB s) (G : GRel s g) (p : EndR s c r e s') :
    (e ≠ 0 ∧ GRel s' g) ∨ (e = 0 ∧ 0 ≤ r ∧ g.runs[c]? = some (r, keyAt s' r) ∧ r ∈ g.live ∧ GRel s' { g with live := g.live.filter fun b => decide (b ≠ r) }) := by
  rcases p with ⟨h1, rfl, rfl, rfl⟩ | ⟨i, y, h1, h2, h3, rfl, rfl, hb⟩
  · exact .inl ⟨by omega, G⟩
  · obtain ⟨n, rfl, y', hy, _⟩ := h.wf.run h1 h2
    rw [Int.toNat_natCast, hy] at h3
    cases h3
    have hn := (List.getElem?_eq_some_iff.1 hy).1
    have hc := (List.getElem?_eq_some_iff.1 h1).1
    have hyj : y.job = (n : Int) := h.wf.jj _ _ hy
    have hst := (h.runs h1 hy).1
    have hj : (s.ends c y).jobs = s.jobs.set n { y with st := 1, core := 0 } := by show s.jobs.set _ _ = _; rw [hyj, Int.toNat_natCast]
    have hka : ∀ i : Int, keyAt (s.ends c y) i = keyAt s i := fun i => by
      by_cases hi : i.toNat = n
      · unfold keyAt
        rw [hj, hi, List.getElem?_set, if_pos rfl, if_pos hn, hy]
      · exact keyAt_set hj hi
    have hlv : (n : Int) ∈ g.live := (G.lv n y hy).1 (by omega)
    have G1 : GRel (s.ends c y) { g with live := g.live.filter fun b => decide (b ≠ (n : Int)) } := by
      refine ⟨G.ln.sublist List.filter_sublist, ?_, ?_, G.ks, G.ll, G.la, ?_, ?_, ?_⟩
      · intro a ha
        rw [hj, List.length_set]
        exact G.lb a (List.mem_filter.1 ha).1
      · intro i w hw
        rw [hj] at hw
        show _ ↔ (i : Int) ∈ g.live.filter _
        rw [List.mem_filter]
        rcases set_get hw hn with ⟨rfl, rfl⟩ | ⟨hi, hw⟩
        · exact ⟨fun q => absurd rfl q, fun q => by simp at q⟩
        · rw [G.lv i w hw]
          exact ⟨fun q => ⟨q, by simp; omega⟩, fun q => q.1⟩
      · show g.mail = s.mail.map (box2 (s.ends c y))
        rw [mail_same fun l _ i _ => hka i, G.ml]
      · show g.runs.length = (s.runs.set c _).length
        rw [List.length_set]; exact G.rl
      · intro d i hd hi
        have hd : (s.runs.set c (-1))[d]? = some i := hd
        rw [hka]
        rcases (runs_set hc).1 hd with ⟨rfl, rfl⟩ | ⟨hne, hd⟩
        · exact absurd rfl hi
        · exact G.rk d i hd hi
    refine .inr ⟨rfl, by omega, ?_, hlv, G1.bal hb⟩
    rw [keyAt_bal hb, hka]
    exact G.rk c n h1 h2
theorem nodup_sub : ∀ {a b : List Int}, a.Nodup → (∀ x ∈ a, x ∈ b) → a.length ≤ b.length
  | [], b, _, _ => by simp
  | x :: a, b, h, hs => by
    rw [List.nodup_cons] at h
    have ih := nodup_sub (b := b.erase x) h.2 fun y hy => (List.mem_erase_of_ne fun e => by subst e; exact h.1 hy).2 (hs y (List.mem_cons_of_mem _ hy))
    have hx := hs x (List.mem_cons_self ..)
    rw [List.length_erase_of_mem hx] at ih
    have := List.length_pos_of_mem hx
    simp; omega
/-- those that are live are just these -/
theorem GRel.these {s : Ms} {g : Gh} (h : InvB s) (G : GRel s g) {L : List Lv} (hL : StS (liv s.jobs) L) : (∀ x ∈ L, x.job ∈ g.live) ∧ L.length = g.live.length := by
  have hmem : ∀ x, x ∈ L ↔ x ∈ s.jobs ∧ isLive x = true := fun x => by rw [hL.mem]; unfold liv; rw [List.mem_filter]
  have one : ∀ x ∈ L, ∃ n : Nat, x.job = n ∧ s.jobs[n]? = some x ∧ x.st ≠ 1 := fun x hx => by
    obtain ⟨h1, h2⟩ := (hmem x).1 hx
    obtain ⟨n, h3, h4⟩ := h.wf.of_mem h1
    exact ⟨n, h3, h4, fun e => by unfold isLive at h2; rw [e] at h2; simp at h2⟩
  have h1 : ∀ x ∈ L, x.job ∈ g.live := fun x hx => by
    obtain ⟨n, h3, h4, h5⟩ := one x hx
    rw [h3]
    exact (G.lv n x h4).1 h5
  have hnd : (L.map Lv.job).Nodup := by
    have : (L.map Lv.job).Perm ((liv s.jobs).map Lv.job) := hL.toPerm.map _
    rw [this.nodup_iff, List.nodup_iff_pairwise_ne, List.pairwise_map]
    refine List.Pairwise.sublist List.filter_sublist ?_
    rw [List.pairwise_iff_getElem]
    intro i j hi hj hlt e
    have h1 := h.wf.jj i _ (List.getElem?_eq_getElem hi)
    have h2 := h.wf.jj j _ (List.getElem?_eq_getElem hj)
    omega
  refine ⟨h1, Nat.le_antisymm ?_ ?_⟩
  · have := nodup_sub hnd (b := g.live) fun a ha => by
      obtain ⟨x, hx, rfl⟩ := List.mem_map.1 ha
      exact h1 x hx
    rwa [List.length_map] at this
  · have := nodup_sub G.ln (b := L.map Lv.job) fun a ha => by
      have hb := G.lb a ha
      obtain ⟨n, rfl⟩ : ∃ n : Nat, a = (n : Int) := ⟨a.toNat, by omega⟩
      obtain ⟨y, hy, hyj⟩ := h.wf.job (i := n) (by omega)
      have hs := (G.lv n y hy).2 ha
      refine List.mem_map.2 ⟨y, (hmem y).2 ⟨List.mem_of_getElem? hy, ?_⟩, hyj⟩
      have := (h.st n y hy).1
      unfold isLive
      rcases this with q | q | q | q
      · exact absurd q hs
      · rw [q]; rfl
      · rw [q]; rfl
      · rw [q]; rfl
    rwa [List.length_map] at this
theorem GRel.init {su : Su} {l : List Tk} (h : su.chk l = 0) : GRel (Ms.init su l) ⟨[], [], List.replicate su.cores.toNat [], List.replicate su.cores.toNat (0, 0), List.replicate l.length 0⟩ := by
  have hI := InvB.init (l := l) h
  refine ⟨List.nodup_nil, by simp, ?_, by simp, by simp [Ms.init, Ms.part], ?_, ?_, by simp [Ms.init, Ms.part], ?_⟩
  · intro i y hy
    obtain ⟨_, rfl⟩ := jobs0_get hy
    simp
  · intro t a p ha hp
    have := (List.mem_replicate.1 (List.mem_of_getElem? ha)).2
    subst this
    have hab := tone_bd ((tchk_all hI.wf.chk).2 p (List.mem_of_getElem? hp))
    show (0 : Int) < kword p.prio (0 + 1) 0
    unfold kword; omega
  · show List.replicate su.cores.toNat [] = (List.replicate su.cores.toNat ([] : List Int)).map _
    rw [List.map_replicate]; rfl
  · intro c i hr hi
    exact absurd (List.mem_replicate.1 (List.mem_of_getElem? hr)).2 hi
end Go.Abs
namespace Go.Abs
open Go.Proofs
set_option maxRecDepth 100000
set_option linter.unusedVariables false
open Tsk (Tk tks tchk tks_len tks_get)
def tds (l : List (Int × Int)) : List (List AV) := l.map fun t => [I t.1, U t.2]
theorem tds_len (l : List (Int × Int)) : (tds l).length = l.length := List.length_map ..
theorem tds_get? {l : List (Int × Int)} {i : Nat} {t : Int × Int} (h : l[i]? = some t) : (tds l)[i]? = some [I t.1, U t.2] := by unfold tds; rw [List.getElem?_map, h]; rfl
theorem tds_set (l : List (Int × Int)) (i : Nat) (t : Int × Int) : (tds l).set i [I t.1, U t.2] = tds (l.set i t) := by unfold tds; rw [List.map_set]
theorem tds_app (a b : List (Int × Int)) : tds (a ++ b) = tds a ++ tds b := List.map_append ..
theorem uints_set (l : List Int) (i : Nat) (n : Int) : (uints l).set i [U n] = uints (l.set i n) := by unfold uints; rw [List.map_set]
def gbox (b : AV) (l : List (Int × Int)) : Own := .sl b 2 (tds l)
theorem gzip_get {bz : List AV} {ml : List (List (Int × Int))} {c : Nat} {b : AV} {l : List (Int × Int)} (h1 : bz[c]? = some b) (h2 : ml[c]? = some l) : (List.zipWith gbox bz ml)[c]? = some (gbox b l) := by
  rw [List.getElem?_zipWith, h1, h2]
theorem gzip_set : ∀ {bz : List AV} {ml : List (List (Int × Int))} {c : Nat} {b : AV} {l : List (Int × Int)}, (List.zipWith gbox bz ml).set c (gbox b l) = List.zipWith gbox (bz.set c b) (ml.set c l)
  | [], _, _, _, _ => by simp
  | _ :: _, [], _, _, _ => by simp
  | _ :: _, _ :: _, 0, _, _ => rfl
  | _ :: bz, _ :: ml, c + 1, b, l => by
    simp only [List.zipWith_cons_cons, List.set_cons_succ]
    rw [gzip_set]
structure Gv where
  vK : AV
  vL : AV
  vM : AV
  vR : AV
  vA : AV
  bx : List AV
def gOwnG (g : Gh) (w : Gv) (bz : List AV) : List Own := .sl w.vK 1 (uints g.keys) :: .sl w.vL 1 (ints g.live) :: .sl w.vM 1 (ptrs w.bx) :: .sl w.vR 2 (tds g.runs) :: .sl w.vA 1 (uints g.last) :: List.zipWith gbox bz g.mail
abbrev gOwn (g : Gh) (w : Gv) : List Own := gOwnG g w w.bx
theorem gbox_get {g : Gh} {w : Gv} {R : List Own} {bz : List AV} {c : Nat} {b : AV} {l : List (Int × Int)} (h1 : bz[c]? = some b) (h2 : g.mail[c]? = some l) : (gOwnG g w bz ++ R)[c + 5]? = some (gbox b l) := by
  show (List.zipWith gbox bz g.mail ++ R)[c]? = _
  have h := gzip_get h1 h2
  rw [List.getElem?_append_left (List.getElem?_eq_some_iff.1 h).1, h]
theorem gbox_set {g : Gh} {w : Gv} {R : List Own} {bz : List AV} {c : Nat} {b b' : AV} {l l' : List (Int × Int)} (h1 : bz[c]? = some b) (h2 : g.mail[c]? = some l) :
    (gOwnG g w bz ++ R).set (c + 5) (gbox b' l') = gOwnG { g with mail := g.mail.set c l' } w (bz.set c b') ++ R := by
  have h := gzip_get h1 h2
  show _ :: _ :: _ :: _ :: _ :: (List.zipWith gbox bz g.mail ++ R).set c (gbox b' l') = _
  rw [List.set_append_left _ _ (List.getElem?_eq_some_iff.1 h).1, gzip_set]
  rfl
theorem rep_gbox (n : Nat) : List.zipWith gbox (List.replicate n Ns) (List.replicate n []) = List.replicate n (.sl Ns 2 []) := by
  induction n with
  | zero => rfl
  | succ n ih => rw [List.replicate_succ, List.replicate_succ, List.replicate_succ, List.zipWith_cons_cons, ih]; rfl
def ksTo : List (Option IntKind) := [some .i64, some .u64]
theorem flatTo : flatT EM.P 2 41 = some ksTo := by kernel_rfl
theorem strTo : isStructB EM.P 41 = true := by kernel_rfl
theorem grdTo : EM.P.eqGuardType EM.P.depth 41 = false := by kernel_rfl
theorem e_told {S : AH} {n : Bool} {a b c d : Int} : evalOp EM.P (.eq 41 n (.agg [I a, U b]) (.agg [I c, U d])) S = some (B (if n then !(decide (a = c) && decide (b = d)) else (decide (a = c) && decide (b = d))), S) := by
  obtain ⟨fs, hu⟩ := isStructB_some (P := EM.P) strTo
  have h := e_eqs (M := EM) (S := S) (n := n) flatTo (by omega) hu grdTo (xs := [I a, U b]) (ys := [I c, U d]) (vx := [.int .i64 a, .int .u64 b]) (vy := [.int .i64 c, .int .u64 d]) rfl rfl rfl rfl
  have e : eqVs [Value.int .i64 a, .int .u64 b] [.int .i64 c, .int .u64 d] = (decide (a = c) && decide (b = d)) := by
    simp only [eqVs, eqV, Bool.and_true]
    congr 1
  rw [e] at h
  exact h
section
variable {B0 S : AH} {W : List Nat} {own R : List Own} {ro : List Fct} {Q : Post} {k : AV → AC} {v v' : AV} {x : Nat} {s : Ms} {m : Mv} {g : Gh} {w : Gv}
/-- the loop's relation -/
structure Kp (S0 S : AH) (su : Su) (tl : List Tk) (ro : List Fct) (x : Nat) (vt vM vR vA : AV) (i : Nat) (s : Ms) (m : Mv) (g : Gh) (w : Gv) : Prop where
  su : s.su = su
  T : s.T = tl
  inv : InvB s
  G : GRel s g
  sq : s.seq ≤ i
  jl : s.jobs.length ≤ 12
  kl : g.keys.length ≤ i
  bx : m.bx.length = s.mail.length
  vt : m.vt = vt
  gx : w.bx.length = g.mail.length
  wv : w.vM = vM ∧ w.vR = vR ∧ w.vA = vA
  H : Cx S0 [] S (gOwn g w ++ mOwn x s m) ro
theorem GRel.lens {s : Ms} {g : Gh} (h : InvB s) (hjl : s.jobs.length ≤ 12) (G : GRel s g) : g.live.length ≤ 12 ∧ (∀ l ∈ g.mail, l.length ≤ 16) ∧ g.mail.length ≤ 64 := by
  refine ⟨?_, ?_, ?_⟩
  · have := nodup_sub G.ln (b := (List.range s.jobs.length).map fun (i : Nat) => (i : Int)) fun a ha => by
      have := G.lb a ha
      exact List.mem_map.2 ⟨a.toNat, List.mem_range.2 (by omega), by omega⟩
    rw [List.length_map, List.length_range] at this
    omega
  · intro l hl
    rw [G.ml] at hl
    obtain ⟨q, hq, rfl⟩ := List.mem_map.1 hl
    have h1 := (h.wf.mb q hq).1
    have h2 := h.wf.fine
    unfold Su.fine at h2
    unfold box2
    rw [List.length_map]; omega
  · rw [G.ml, List.length_map]
    have := h.wf.ml
    have := h.wf.c64
    omega
end
end Go.Abs
namespace Go.Abs
open Go.Proofs
set_option maxRecDepth 100000
set_option linter.unusedVariables false
open Tsk (Tk tks tchk tks_len tks_get)
section
variable {B0 S : AH} {W : List Nat} {own R : List Own} {ro : List Fct} {Q : Post} {k : AV → AC} {g : Gh} {w : Gv}
theorem wp_gboxAt (H : Cx B0 W S (gOwn g w ++ R) ro) (hgx : w.bx.length = g.mail.length) {c : Nat} {bl : List (Int × Int)} (hb : g.mail[c]? = some bl) : ∃ b, w.bx[c]? = some b ∧ (gOwnG g w w.bx ++ R)[c + 5]? = some (gbox b bl) := by
  have hc := (List.getElem?_eq_some_iff.1 hb).1
  have h1 : w.bx[c]? = some (w.bx[c]'(by omega)) := List.getElem?_eq_getElem _
  exact ⟨_, h1, gbox_get h1 hb⟩
set_option maxHeartbeats 1000000 in
theorem rel_step {p d q : Nat} {su : Su} {u j0 f : AV} {i : Nat} {kind now tj tk la : Int} {a hh : Nat} {bl : List (Int × Int)} (hp : Fct.pt p 0 (su.cs u) ∈ ro) (hd : Fct.pt d 0 [I kind, I (a : Int), I now] ∈ ro) (hq : Fct.pt q 0 [I tj, U tk] ∈ ro)
    (hc : 1 ≤ su.cores ∧ su.cores ≤ 64) (hj : tj ∉ g.live) (hla : g.last[a]? = some la) (hlt : la < tk) (hk : tk ∉ g.keys) (hhh : (hh : Int) = (a : Int) % su.cores) (hb : g.mail[hh]? = some bl) (hgx : w.bx.length = g.mail.length)
    (l1 : g.keys.length ≤ 1000) (l2 : g.live.length ≤ 1000) (l3 : bl.length ≤ 1000) (H : Cx B0 W S (gOwn g w ++ R) ro) :
    wp EM (Try.a5x11 (.ptr p 0) w.vM w.vA [I (i : Int), j0, w.vL, w.vK, f] (.ptr d 0) (.ptr q 0)) S fun t vs S' => t = .normal ∧ ∃ w' : Gv, vs = [j0, w'.vL, w'.vK, f] ∧ (w'.vM = w.vM ∧ w'.vR = w.vR ∧ w'.vA = w.vA) ∧ w'.bx.length = w.bx.length ∧
      Cx B0 W S' (gOwn ⟨g.keys ++ [tk], g.live ++ [tj], g.mail.set hh (bl ++ [(tj, tk)]), g.runs, g.last.set a tk⟩ w' ++ R) ro := by
  unfold Try.a5x11 Try.a5x10 Try.a5x9 Try.a5x8 Try.a5x7 Try.a5x6 Try.a5x5 Try.a5x4 Try.a5x3
  obtain ⟨b, hb1, hb2⟩ := wp_gboxAt H hgx hb
  repeat (first|refine zA ?_|refine zB rfl ?_|refine zC ?_|refine zD ?_|refine zE rfl ?_|refine zF ?_|refine zG ?_|refine zH ?_|refine zI ?_|refine zJ ?_|refine zK ?_|refine zL rfl ?_|refine zN rfl ?_)
  refine wp_ld H (o := 0) (cs := [I tj, U tk]) hq rfl ?_
  refine wp_callV H (amongK_ok (l := g.live) (a := tj) (by omega) (H.ownSl (n := 1) rfl)) fun S1 H => ?_
  rw [decide_eq_false hj]
  repeat (first|refine zA ?_|refine zB rfl ?_|refine zC ?_|refine zD ?_|refine zE rfl ?_|refine zF ?_|refine zG ?_|refine zH ?_|refine zI ?_|refine zJ ?_|refine zK ?_|refine zL rfl ?_|refine zN rfl ?_)
  refine wp_ld H (o := 1) (cs := [I tj, U tk]) hq rfl ?_
  repeat (first|refine zA ?_|refine zB rfl ?_|refine zC ?_|refine zD ?_|refine zE rfl ?_|refine zF ?_|refine zG ?_|refine zH ?_|refine zI ?_|refine zJ ?_|refine zK ?_|refine zL rfl ?_|refine zN rfl ?_)
  refine wp_ld H (o := 1) (cs := [I kind, I (a : Int), I now]) hd rfl ?_
  have hal := (List.getElem?_eq_some_iff.1 hla).1
  repeat (first|refine zA ?_|refine zB rfl ?_|refine zC ?_|refine zD ?_|refine zE rfl ?_|refine zF ?_|refine zG ?_|refine zH ?_|refine zI ?_|refine zJ ?_|refine zK ?_|refine zL rfl ?_|refine zN rfl ?_)
  refine wp_at (es := 1) H 4 rfl (by rw [uints_len]; exact hal) fun id off hpt => ?_
  repeat (first|refine zA ?_|refine zB rfl ?_|refine zC ?_|refine zD ?_|refine zE rfl ?_|refine zF ?_|refine zG ?_|refine zH ?_|refine zI ?_|refine zJ ?_|refine zK ?_|refine zL rfl ?_|refine zN rfl ?_)
  refine wp_atL0 H 4 rfl hpt (uints_get? hla) rfl ?_
  repeat (first|refine zA ?_|refine zB rfl ?_|refine zC ?_|refine zD ?_|refine zE rfl ?_|refine zF ?_|refine zG ?_|refine zH ?_|refine zI ?_|refine zJ ?_|refine zK ?_|refine zL rfl ?_|refine zN rfl ?_)
  refine wp_leq_f (by omega) ?_
  repeat (first|refine zA ?_|refine zB rfl ?_|refine zC ?_|refine zD ?_|refine zE rfl ?_|refine zF ?_|refine zG ?_|refine zH ?_|refine zI ?_|refine zJ ?_|refine zK ?_|refine zL rfl ?_|refine zN rfl ?_)
  refine wp_ld H (o := 1) (cs := [I tj, U tk]) hq rfl ?_
  repeat (first|refine zA ?_|refine zB rfl ?_|refine zC ?_|refine zD ?_|refine zE rfl ?_|refine zF ?_|refine zG ?_|refine zH ?_|refine zI ?_|refine zJ ?_|refine zK ?_|refine zL rfl ?_|refine zN rfl ?_)
  refine wp_callV H (hasK_ok (l := g.keys) (a := tk) (by omega) (H.ownSl (n := 0) rfl)) fun S2 H => ?_
  rw [decide_eq_false hk]
  repeat (first|refine zA ?_|refine zB rfl ?_|refine zC ?_|refine zD ?_|refine zE rfl ?_|refine zF ?_|refine zG ?_|refine zH ?_|refine zI ?_|refine zJ ?_|refine zK ?_|refine zL rfl ?_|refine zN rfl ?_)
  refine wp_ld H (o := 1) (cs := [I kind, I (a : Int), I now]) hd rfl ?_
  repeat (first|refine zA ?_|refine zB rfl ?_|refine zC ?_|refine zD ?_|refine zE rfl ?_|refine zF ?_|refine zG ?_|refine zH ?_|refine zI ?_|refine zJ ?_|refine zK ?_|refine zL rfl ?_|refine zN rfl ?_)
  refine wp_ld H (o := 1) (cs := [I tj, U tk]) hq rfl ?_
  refine wp_at (es := 1) H 4 rfl (by rw [uints_len]; exact hal) fun id2 off2 hpt2 => ?_
  refine wp_atS0 H 4 rfl hpt2 (uints_get? hla) rfl rfl (by omega) (by simp) fun S3 H => ?_
  have e1 : (uints g.last).set a ([U la].set 0 (U tk)) = uints (g.last.set a tk) := uints_set _ _ _
  rw [e1] at H
  have H : Cx B0 W S3 (gOwn { g with last := g.last.set a tk } w ++ R) ro := H
  repeat (first|refine zA ?_|refine zB rfl ?_|refine zC ?_|refine zD ?_|refine zE rfl ?_|refine zF ?_|refine zG ?_|refine zH ?_|refine zI ?_|refine zJ ?_|refine zK ?_|refine zL rfl ?_|refine zN rfl ?_)
  refine wp_ld H (o := 1) (cs := [I tj, U tk]) hq rfl ?_
  refine wp_push (x := U tk) (L := uints g.keys) H 0 rfl rfl rfl rfl (by rw [uints_len]; unfold maxBytes; omega) (by rw [uints_len]; unfold maxLenN; omega) fun vK S4 H => ?_
  have e2 : uints g.keys ++ [(U tk).cells] = uints (g.keys ++ [tk]) := by rw [uints_app]; rfl
  rw [e2] at H
  have H : Cx B0 W S4 (gOwn { g with last := g.last.set a tk, keys := g.keys ++ [tk] } { w with vK := vK } ++ R) ro := H
  repeat (first|refine zA ?_|refine zB rfl ?_|refine zC ?_|refine zD ?_|refine zE rfl ?_|refine zF ?_|refine zG ?_|refine zH ?_|refine zI ?_|refine zJ ?_|refine zK ?_|refine zL rfl ?_|refine zN rfl ?_)
  refine wp_ld H (o := 0) (cs := [I tj, U tk]) hq rfl ?_
  refine wp_push (x := I tj) (L := ints g.live) H 1 rfl rfl rfl rfl (by rw [ints_len]; unfold maxBytes; omega) (by rw [ints_len]; unfold maxLenN; omega) fun vL S5 H => ?_
  have e3 : ints g.live ++ [(I tj).cells] = ints (g.live ++ [tj]) := by rw [ints_app]; rfl
  rw [e3] at H
  have H : Cx B0 W S5 (gOwnG { g with last := g.last.set a tk, keys := g.keys ++ [tk], live := g.live ++ [tj] } { w with vK := vK, vL := vL } w.bx ++ R) ro := H
  repeat (first|refine zA ?_|refine zB rfl ?_|refine zC ?_|refine zD ?_|refine zE rfl ?_|refine zF ?_|refine zG ?_|refine zH ?_|refine zI ?_|refine zJ ?_|refine zK ?_|refine zL rfl ?_|refine zN rfl ?_)
  refine wp_ld H (o := 1) (cs := [I kind, I (a : Int), I now]) hd rfl ?_
  repeat (first|refine zA ?_|refine zB rfl ?_|refine zC ?_|refine zD ?_|refine zE rfl ?_|refine zF ?_|refine zG ?_|refine zH ?_|refine zI ?_|refine zJ ?_|refine zK ?_|refine zL rfl ?_|refine zN rfl ?_)
  refine wp_ld H (o := 0) (cs := su.cs u) hp rfl ?_
  refine wp_remE (by omega) (by omega) ?_
  repeat (first|refine zA ?_|refine zB rfl ?_|refine zC ?_|refine zD ?_|refine zE rfl ?_|refine zF ?_|refine zG ?_|refine zH ?_|refine zI ?_|refine zJ ?_|refine zK ?_|refine zL rfl ?_|refine zN rfl ?_)
  refine wp_ld H (o := 1) (cs := [I kind, I (a : Int), I now]) hd rfl ?_
  repeat (first|refine zA ?_|refine zB rfl ?_|refine zC ?_|refine zD ?_|refine zE rfl ?_|refine zF ?_|refine zG ?_|refine zH ?_|refine zI ?_|refine zJ ?_|refine zK ?_|refine zL rfl ?_|refine zN rfl ?_)
  refine wp_ld H (o := 0) (cs := su.cs u) hp rfl ?_
  refine wp_remE (by omega) (by omega) ?_
  rw [← hhh]
  have hbl := (List.getElem?_eq_some_iff.1 hb1).1
  refine wp_at (es := 1) H 2 rfl (by rw [ptrs_len]; exact hbl) fun id3 off3 hpt3 => ?_
  refine wp_atL0 H 2 rfl hpt3 (ptrs_get? hb1) rfl ?_
  refine wp_ldn H (o := 0) (n := 2) (cs := [I tj, U tk]) hq rfl ?_
  have hg3 : (gOwnG { g with last := g.last.set a tk, keys := g.keys ++ [tk], live := g.live ++ [tj] } { w with vK := vK, vL := vL } w.bx ++ R)[hh + 5]? = some (gbox b bl) := gbox_get hb1 hb
  refine wp_push (x := .agg [I tj, U tk]) (L := tds bl) H (hh + 5) hg3 rfl rfl rfl (by rw [tds_len]; unfold maxBytes; omega) (by rw [tds_len]; unfold maxLenN; omega) fun v1 S6 H => ?_
  have e4 : tds bl ++ [(AV.agg [I tj, U tk]).cells] = tds (bl ++ [(tj, tk)]) := by rw [tds_app]; rfl
  rw [e4] at H
  have H : Cx B0 W S6 ((gOwnG { g with last := g.last.set a tk, keys := g.keys ++ [tk], live := g.live ++ [tj] } { w with vK := vK, vL := vL } w.bx ++ R).set (hh + 5) (gbox v1 (bl ++ [(tj, tk)]))) ro := H
  rw [gbox_set (g := { g with last := g.last.set a tk, keys := g.keys ++ [tk], live := g.live ++ [tj] }) hb1 hb] at H
  have hv1 : (w.bx.set hh v1)[hh]? = some v1 := by rw [List.getElem?_set]; simp [hbl]
  have hm1 : (g.mail.set hh (bl ++ [(tj, tk)]))[hh]? = some (bl ++ [(tj, tk)]) := by
    have := (List.getElem?_eq_some_iff.1 hb).1
    rw [List.getElem?_set]; simp [this]
  obtain ⟨o1, o2⟩ := slOk_odd1 (ownSl_ok (H.oh _ (List.mem_of_getElem? (gbox_get (g := { g with last := g.last.set a tk, keys := g.keys ++ [tk], live := g.live ++ [tj], mail := g.mail.set hh (bl ++ [(tj, tk)]) }) hv1 hm1))))
  refine wp_chk1 H (off := 0) (j := 1) (cs := [I kind, I (a : Int), I now]) hd rfl beq_num ?_
  refine wp_chk1 H (off := 0) (j := 0) (cs := su.cs u) hp rfl beq_num ?_
  refine wp_at (es := 1) H 2 rfl (by rw [ptrs_len]; exact hbl) fun id4 off4 hpt4 => ?_
  refine wp_atS0 H 2 rfl hpt4 (ptrs_get? hb1) o1 o2 (by omega) (by simp) fun S7 H => ?_
  have e5 : (ptrs w.bx).set hh ([b].set 0 v1) = ptrs (w.bx.set hh v1) := ptrs_set _ _ _
  have H : Cx B0 W S7 ((gOwnG { g with last := g.last.set a tk, keys := g.keys ++ [tk], live := g.live ++ [tj], mail := g.mail.set hh (bl ++ [(tj, tk)]) } { w with vK := vK, vL := vL } (w.bx.set hh v1) ++ R).set 2 (.sl w.vM 1 ((ptrs w.bx).set hh ([b].set 0 v1)))) ro := H
  rw [e5] at H
  exact wp_ret ⟨rfl, ⟨vK, vL, w.vM, w.vR, w.vA, w.bx.set hh v1⟩, rfl, ⟨rfl, rfl, rfl⟩, List.length_set, H⟩
set_option maxHeartbeats 1000000 in
theorem take_step {d q : Nat} {j0 f : AV} {i : Nat} {kind now tj tk : Int} {a : Nat} {bl : List (Int × Int)} (hd : Fct.pt d 0 [I kind, I (a : Int), I now] ∈ ro) (hq : Fct.pt q 0 [I tj, U tk] ∈ ro)
    (hb : g.mail[a]? = some ((tj, tk) :: bl)) (hgx : w.bx.length = g.mail.length) (H : Cx B0 W S (gOwn g w ++ R) ro) :
    wp EM (Try.a5x16 w.vM [I (i : Int), j0, w.vL, w.vK, f] (.ptr d 0) (.ptr q 0)) S fun t vs S' => t = .normal ∧ ∃ w' : Gv, vs = [w'.vL, j0, f] ∧ w'.vK = w.vK ∧ (w'.vM = w.vM ∧ w'.vR = w.vR ∧ w'.vA = w.vA) ∧ w'.bx.length = w.bx.length ∧
      Cx B0 W S' (gOwn { g with mail := g.mail.set a bl } w' ++ R) ro := by
  unfold Try.a5x16 Try.a5x15 Try.a5x14 Try.a5x13 Try.a5x12
  obtain ⟨b, hb1, hb2⟩ := wp_gboxAt H hgx hb
  have hbl := (List.getElem?_eq_some_iff.1 hb1).1
  have H : Cx B0 W S (gOwnG g w w.bx ++ R) ro := H
  repeat (first|refine zA ?_|refine zB rfl ?_|refine zC ?_|refine zD ?_|refine zE rfl ?_|refine zF ?_|refine zG ?_|refine zH ?_|refine zI ?_|refine zJ ?_|refine zK ?_|refine zL rfl ?_|refine zN rfl ?_)
  refine wp_ld H (o := 1) (cs := [I kind, I (a : Int), I now]) hd rfl ?_
  refine wp_at (es := 1) H 2 rfl (by rw [ptrs_len]; exact hbl) fun id off hpt => ?_
  refine wp_atL0 H 2 rfl hpt (ptrs_get? hb1) rfl ?_
  refine wp_leno H (a + 5) hb2 ?_
  rw [tds_len]
  refine wp_eql_f (by simp; omega) ?_
  repeat (first|refine zA ?_|refine zB rfl ?_|refine zC ?_|refine zD ?_|refine zE rfl ?_|refine zF ?_|refine zG ?_|refine zH ?_|refine zI ?_|refine zJ ?_|refine zK ?_|refine zL rfl ?_|refine zN rfl ?_)
  refine wp_ld H (o := 1) (cs := [I kind, I (a : Int), I now]) hd rfl ?_
  repeat (first|refine zA ?_|refine zB rfl ?_|refine zC ?_|refine zD ?_|refine zE rfl ?_|refine zF ?_|refine zG ?_|refine zH ?_|refine zI ?_|refine zJ ?_|refine zK ?_|refine zL rfl ?_|refine zN rfl ?_)
  refine wp_at (es := 1) H 2 rfl (by rw [ptrs_len]; exact hbl) fun id2 off2 hpt2 => ?_
  repeat (first|refine zA ?_|refine zB rfl ?_|refine zC ?_|refine zD ?_|refine zE rfl ?_|refine zF ?_|refine zG ?_|refine zH ?_|refine zI ?_|refine zJ ?_|refine zK ?_|refine zL rfl ?_|refine zN rfl ?_)
  refine wp_atL0 H 2 rfl hpt2 (ptrs_get? hb1) rfl ?_
  repeat (first|refine zA ?_|refine zB rfl ?_|refine zC ?_|refine zD ?_|refine zE rfl ?_|refine zF ?_|refine zG ?_|refine zH ?_|refine zI ?_|refine zJ ?_|refine zK ?_|refine zL rfl ?_|refine zN rfl ?_)
  refine wp_at (es := 2) (i := 0) H (a + 5) hb2 (by simp [tds]) fun id3 off3 hpt3 => ?_
  repeat (first|refine zA ?_|refine zB rfl ?_|refine zC ?_|refine zD ?_|refine zE rfl ?_|refine zF ?_|refine zG ?_|refine zH ?_|refine zI ?_|refine zJ ?_|refine zK ?_|refine zL rfl ?_|refine zN rfl ?_)
  refine wp_atLn H (a + 5) hb2 hpt3 (x := [I tj, U tk]) rfl (by simp) ?_
  repeat (first|refine zA ?_|refine zB rfl ?_|refine zC ?_|refine zD ?_|refine zE rfl ?_|refine zF ?_|refine zG ?_|refine zH ?_|refine zI ?_|refine zJ ?_|refine zK ?_|refine zL rfl ?_|refine zN rfl ?_)
  refine wp_ldn H (o := 0) (n := 2) (cs := [I tj, U tk]) hq rfl ?_
  repeat (first|refine zA ?_|refine zB rfl ?_|refine zC ?_|refine zD ?_|refine zE rfl ?_|refine zF ?_|refine zG ?_|refine zH ?_|refine zI ?_|refine zJ ?_|refine zK ?_|refine zL rfl ?_|refine zN rfl ?_)
  refine wp_op e_told ?_
  have e0 : (if true = true then !(decide (tj = tj) && decide (tk = tk)) else (decide (tj = tj) && decide (tk = tk))) = false := by simp
  rw [e0]
  repeat (first|refine zA ?_|refine zB rfl ?_|refine zC ?_|refine zD ?_|refine zE rfl ?_|refine zF ?_|refine zG ?_|refine zH ?_|refine zI ?_|refine zJ ?_|refine zK ?_|refine zL rfl ?_|refine zN rfl ?_)
  refine wp_ld H (o := 1) (cs := [I kind, I (a : Int), I now]) hd rfl ?_
  repeat (first|refine zA ?_|refine zB rfl ?_|refine zC ?_|refine zD ?_|refine zE rfl ?_|refine zF ?_|refine zG ?_|refine zH ?_|refine zI ?_|refine zJ ?_|refine zK ?_|refine zL rfl ?_|refine zN rfl ?_)
  refine wp_ld H (o := 1) (cs := [I kind, I (a : Int), I now]) hd rfl ?_
  refine wp_at (es := 1) H 2 rfl (by rw [ptrs_len]; exact hbl) fun id4 off4 hpt4 => ?_
  refine wp_atL0 H 2 rfl hpt4 (ptrs_get? hb1) rfl ?_
  refine wp_fromO (i := 1) H (a + 5) hb2 (by simp [tds]) fun v1 H => ?_
  have H : Cx B0 W S ((gOwnG g w w.bx ++ R).set (a + 5) (gbox v1 bl)) ro := H
  rw [gbox_set hb1 hb] at H
  have hv1 : (w.bx.set a v1)[a]? = some v1 := by rw [List.getElem?_set]; simp [hbl]
  have hm1 : (g.mail.set a bl)[a]? = some bl := by
    have := (List.getElem?_eq_some_iff.1 hb).1
    rw [List.getElem?_set]; simp [this]
  obtain ⟨o1, o2⟩ := slOk_odd1 (ownSl_ok (H.oh _ (List.mem_of_getElem? (gbox_get (g := { g with mail := g.mail.set a bl }) hv1 hm1))))
  refine wp_at (es := 1) H 2 rfl (by rw [ptrs_len]; exact hbl) fun id5 off5 hpt5 => ?_
  refine wp_atS0 H 2 rfl hpt5 (ptrs_get? hb1) o1 o2 (by omega) (by simp) fun S7 H => ?_
  have e5 : (ptrs w.bx).set a ([b].set 0 v1) = ptrs (w.bx.set a v1) := ptrs_set _ _ _
  have H : Cx B0 W S7 ((gOwnG { g with mail := g.mail.set a bl } w (w.bx.set a v1) ++ R).set 2 (.sl w.vM 1 ((ptrs w.bx).set a ([b].set 0 v1)))) ro := H
  rw [e5] at H
  exact wp_ret ⟨rfl, ⟨w.vK, w.vL, w.vM, w.vR, w.vA, w.bx.set a v1⟩, rfl, rfl, ⟨rfl, rfl, rfl⟩, List.length_set, H⟩
theorem run_step {d q : Nat} {j0 f : AV} {i : Nat} {kind now tj tk : Int} {a : Nat} (hd : Fct.pt d 0 [I kind, I (a : Int), I now] ∈ ro) (hq : Fct.pt q 0 [I tj, U tk] ∈ ro) (hr : a < g.runs.length) (H : Cx B0 W S (gOwn g w ++ R) ro) :
    wp EM (Try.a5x22 w.vR [I (i : Int), j0, w.vL, w.vK, f] (.ptr d 0) (.ptr q 0) [B true]) S fun t vs S' => t = .normal ∧ vs = [w.vL, f] ∧ Cx B0 W S' (gOwn { g with runs := g.runs.set a (tj, tk) } w ++ R) ro := by
  unfold Try.a5x22 Try.a5x18
  have hr2 : g.runs[a]? = some g.runs[a] := List.getElem?_eq_getElem hr
  repeat (first|refine zA ?_|refine zB rfl ?_|refine zC ?_|refine zD ?_|refine zE rfl ?_|refine zF ?_|refine zG ?_|refine zH ?_|refine zI ?_|refine zJ ?_|refine zK ?_|refine zL rfl ?_|refine zN rfl ?_)
  refine wp_ld H (o := 1) (cs := [I kind, I (a : Int), I now]) hd rfl ?_
  refine wp_ldn H (o := 0) (n := 2) (cs := [I tj, U tk]) hq rfl ?_
  refine wp_at (es := 2) H 3 rfl (by rw [tds_len]; exact hr) fun id off hpt => ?_
  refine wp_atSn (y := .agg [I tj, U tk]) H 3 rfl hpt (tds_get? hr2) rfl rfl fun S2 H => ?_
  have e1 : (tds g.runs).set a (AV.agg [I tj, U tk]).cells = tds (g.runs.set a (tj, tk)) := tds_set _ _ (tj, tk)
  rw [e1] at H
  exact wp_ret ⟨rfl, rfl, H⟩
theorem end_step {d q : Nat} {j0 f : AV} {i : Nat} {kind now tj tk : Int} {a : Nat} (hd : Fct.pt d 0 [I kind, I (a : Int), I now] ∈ ro) (hq : Fct.pt q 0 [I tj, U tk] ∈ ro) (hr : g.runs[a]? = some (tj, tk)) (hm : tj ∈ g.live) (l2 : g.live.length ≤ 1000) (H : Cx B0 W S (gOwn g w ++ R) ro) :
    wp EM (Try.a5x22 w.vR [I (i : Int), j0, w.vL, w.vK, f] (.ptr d 0) (.ptr q 0) [B false]) S fun t vs S' => t = .normal ∧ ∃ vL, vs = [vL, f] ∧ Cx B0 W S' (gOwn { g with live := g.live.filter fun b => decide (b ≠ tj) } { w with vL := vL } ++ R) ro := by
  unfold Try.a5x22 Try.a5x21 Try.a5x20 Try.a5x19
  have hrl := (List.getElem?_eq_some_iff.1 hr).1
  repeat (first|refine zA ?_|refine zB rfl ?_|refine zC ?_|refine zD ?_|refine zE rfl ?_|refine zF ?_|refine zG ?_|refine zH ?_|refine zI ?_|refine zJ ?_|refine zK ?_|refine zL rfl ?_|refine zN rfl ?_)
  refine wp_ld H (o := 1) (cs := [I kind, I (a : Int), I now]) hd rfl ?_
  refine wp_at (es := 2) H 3 rfl (by rw [tds_len]; exact hrl) fun id off hpt => ?_
  refine wp_atLn H 3 rfl hpt (tds_get? hr) (by simp) ?_
  refine wp_ldn H (o := 0) (n := 2) (cs := [I tj, U tk]) hq rfl ?_
  refine wp_op e_told ?_
  have e0 : (if true = true then !(decide (tj = tj) && decide (tk = tk)) else (decide (tj = tj) && decide (tk = tk))) = false := by simp
  rw [e0]
  repeat (first|refine zA ?_|refine zB rfl ?_|refine zC ?_|refine zD ?_|refine zE rfl ?_|refine zF ?_|refine zG ?_|refine zH ?_|refine zI ?_|refine zJ ?_|refine zK ?_|refine zL rfl ?_|refine zN rfl ?_)
  refine wp_ld H (o := 0) (cs := [I tj, U tk]) hq rfl ?_
  repeat (first|refine zA ?_|refine zB rfl ?_|refine zC ?_|refine zD ?_|refine zE rfl ?_|refine zF ?_|refine zG ?_|refine zH ?_|refine zI ?_|refine zJ ?_|refine zK ?_|refine zL rfl ?_|refine zN rfl ?_)
  refine wp_callV H (amongK_ok (l := g.live) (a := tj) (by omega) (H.ownSl (n := 1) rfl)) fun S1 H => ?_
  rw [decide_eq_true hm]
  repeat (first|refine zA ?_|refine zB rfl ?_|refine zC ?_|refine zD ?_|refine zE rfl ?_|refine zF ?_|refine zG ?_|refine zH ?_|refine zI ?_|refine zJ ?_|refine zK ?_|refine zL rfl ?_|refine zN rfl ?_)
  refine wp_notT ?_
  repeat (first|refine zA ?_|refine zB rfl ?_|refine zC ?_|refine zD ?_|refine zE rfl ?_|refine zF ?_|refine zG ?_|refine zH ?_|refine zI ?_|refine zJ ?_|refine zK ?_|refine zL rfl ?_|refine zN rfl ?_)
  refine wp_ld H (o := 0) (cs := [I tj, U tk]) hq rfl ?_
  refine wp_call (wpC_mono (withoutK_ok (l := g.live) (a := tj) (by omega) (H.ownSl (n := 1) rfl)) fun r S2 K => ?_)
  have H := H.addC K
  refine wp_ret ⟨rfl, r, rfl, ?_⟩
  -- the old list is let go
  have H2 := (H.dropAt 2).perm (List.Perm.swap _ _ _)
  exact H2
end
end Go.Abs
namespace Go.Abs
open Go.Proofs
set_option maxRecDepth 100000
set_option linter.unusedVariables false
open Tsk (Tk tks tchk tks_len tks_get)
section
variable {B0 S : AH} {W : List Nat} {own R : List Own} {ro : List Fct} {Q : Post} {k : AV → AC} {g : Gh} {w : Gv}
theorem told_pair (s : Ms) (r e : Int) : ∃ tj tk, told s r e = .agg [I tj, U tk] ∧ (e ≠ 0 → tj = 0 ∧ tk = 0) ∧ (e = 0 → (tj, tk) = toldOf s r) := by
  unfold told toldOf
  by_cases he : e = 0
  · by_cases hr : r ≠ -1
    · rw [if_pos ⟨he, hr⟩, if_pos hr]
      exact ⟨r, keyAt s r, rfl, fun h => absurd he h, fun _ => rfl⟩
    · rw [if_neg fun h => hr h.2, if_neg hr]
      exact ⟨0, 0, rfl, fun h => absurd he h, fun _ => rfl⟩
  · rw [if_neg fun h => he h.1]
    exact ⟨0, 0, rfl, fun _ => ⟨rfl, rfl⟩, fun h => absurd h he⟩
theorem toldOf_pos {s : Ms} {r : Int} (h : 0 ≤ r) : toldOf s r = (r, keyAt s r) := by unfold toldOf; rw [if_pos (by omega)]
/-- behind an operation that was done -/
theorem OpR.kept {s s' : Ms} {g : Gh} {kind at' now r e : Int} (h : InvB s) (G : GRel s g) (hf : mayAt s kind at' now) (p : OpR s kind at' now r e s') : (e ≠ 0 ∧ GRel s' g ∧ (kind = 2 → e = 15 ∧ g.mail[at'.toNat]? = some [])) ∨ (e = 0 ∧
    ((kind = 1 ∧ 0 ≤ r ∧ r ∉ g.live ∧ (∃ la, g.last[at'.toNat]? = some la ∧ la < keyAt s' r) ∧ keyAt s' r ∉ g.keys ∧ ∃ (hh : Nat) (bl : List (Int × Int)), (hh : Int) = at' % s.su.cores ∧ g.mail[hh]? = some bl ∧ GRel s' ⟨g.keys ++ [keyAt s' r], g.live ++ [r], g.mail.set hh (bl ++ [(r, keyAt s' r)]), g.runs, g.last.set at'.toNat (keyAt s' r)⟩) ∨
    (kind = 2 ∧ 0 ≤ r ∧ ∃ bl, g.mail[at'.toNat]? = some ((r, keyAt s' r) :: bl) ∧ GRel s' { g with mail := g.mail.set at'.toNat bl }) ∨
    ((kind = 3 ∨ kind = 4) ∧ GRel s' { g with runs := g.runs.set at'.toNat (toldOf s' r) }) ∨
    (kind = 5 ∧ 0 ≤ r ∧ g.runs[at'.toNat]? = some (r, keyAt s' r) ∧ r ∈ g.live ∧ GRel s' { g with live := g.live.filter fun b => decide (b ≠ r) }))) := by
  have hat : ((at'.toNat : Nat) : Int) = at' := by have := hf.2.1; omega
  rcases p with ⟨hk, p⟩ | ⟨hk, p⟩ | ⟨hk, p⟩ | ⟨hk, p⟩ | ⟨hk, p⟩
  · rcases p.kept h G with ⟨h1, h2⟩ | ⟨h1, h2, h3, h4, h5, hh, bl, h6, h7⟩
    · exact .inl ⟨h1, h2, fun q => by omega⟩
    · rw [hat] at h6
      exact .inr ⟨h1, .inl ⟨hk, h2, h3, h4, h5, hh, bl, h6, h7⟩⟩
  · rcases p.kept h G with ⟨h1, h2, h3, h4⟩ | ⟨h1, h2⟩
    · exact .inl ⟨h1, h4, fun _ => ⟨h2, h3⟩⟩
    · exact .inr ⟨h1, .inr (.inl ⟨hk, h2⟩)⟩
  · rcases p.kept h G with ⟨h1, h2⟩ | ⟨h1, h2⟩
    · exact .inl ⟨h1, h2, fun q => by omega⟩
    · exact .inr ⟨h1, .inr (.inr (.inl ⟨.inl hk, h2⟩))⟩
  · rcases p.kept h G with ⟨h1, h2⟩ | ⟨h1, h2⟩
    · exact .inl ⟨h1, h2, fun q => by omega⟩
    · exact .inr ⟨h1, .inr (.inr (.inl ⟨.inr hk, h2⟩))⟩
  · rcases p.kept h G with ⟨h1, h2⟩ | ⟨h1, h2⟩
    · exact .inl ⟨h1, h2, fun q => by omega⟩
    · exact .inr ⟨h1, .inr (.inr (.inr ⟨hk, h2⟩))⟩
theorem dAt_fits {s : Ms} {n i : Int} (h : s.Wf) (hn : 0 ≤ n) (hl : 1 ≤ s.T.length) (hi : 0 ≤ i ∧ i ≤ 1099511627776) : (1 ≤ dKind n ∧ dKind n ≤ 5) ∧ mayAt s (dKind n) (dAt s.su s.T n) i := by
  have hc := h.c64
  have h1 : 1 ≤ dKind n ∧ dKind n ≤ 5 := by unfold dKind; omega
  refine ⟨h1, fun _ => hi, ?_, ?_⟩
  · unfold dAt
    split
    · exact Int.emod_nonneg _ (by omega)
    · exact Int.emod_nonneg _ (by omega)
  · unfold dAt most
    split
    · exact Int.emod_lt_of_pos _ (by omega)
    · exact Int.emod_lt_of_pos _ (by omega)
set_option maxHeartbeats 4000000 in
theorem modelKept_ok {S : AH} {v v2 : AV} {l l2 : List Int} (hv : RoSl S v 1 (ints l)) (hv2 : RoSl S v2 1 (ints l2)) : wpC EM (.fn (.func 5) [] []) [v, v2] S fun r _ => r = B true := by
  refine wpC_fn (b := Try.a5) rfl rfl ?_
  have H := Cx.ro2 hv hv2
  unfold Try.a5 Try.a5x35 Try.a5x34 Try.a5x33 Try.a5x32 Try.a5x31 Try.a5x30 Try.a5x29 Try.a5x28 Try.a5x27
  refine wp_call (wpC_mono known_kn fun r S1 q => ?_)
  obtain ⟨rfl, rfl⟩ := q
  refine wp_len H (v := v2) (es := 1) (L := ints l2) (by repeat (first | exact List.Mem.head _ | apply List.Mem.tail)) ?_
  rw [ints_len]
  refine wp_gtr (fun hbig => ?_) (fun hsm => ?_)
  · repeat (first|refine zA ?_|refine zB rfl ?_|refine zC ?_|refine zD ?_|refine zE rfl ?_|refine zF ?_|refine zG ?_|refine zH ?_|refine zI ?_|refine zJ ?_|refine zK ?_|refine zL rfl ?_|refine zN rfl ?_)
    exact wp_ret ⟨rfl, rfl⟩
  have hl2 : l2.length ≤ 100 := by omega
  repeat (first|refine zA ?_|refine zB rfl ?_|refine zC ?_|refine zD ?_|refine zE rfl ?_|refine zF ?_|refine zG ?_|refine zH ?_|refine zI ?_|refine zJ ?_|refine zK ?_|refine zL rfl ?_|refine zN rfl ?_)
  refine wp_call (wpC_mono (sized_ok (H.roSl (v := v) (es := 1) (L := ints l) (by repeat (first | exact List.Mem.head _ | apply List.Mem.tail)))) fun r S2 q => ?_)
  obtain ⟨su, u, tl, rfl, hsu, htl, ht1, ht4, K⟩ := q
  have hchk := small_chk hsu htl ht1 ht4
  have H := (H.addC K).freezeSl (i := 0) rfl
  have H : Cx S1 [] S2 [] [.sl u 4 (tks tl), .sl v 1 (ints l), .sl v2 1 (ints l2)] := H
  clear K
  refine wp_tmpN H rfl rfl rfl fun p S3 H => ?_
  have H : Cx S1 [] S3 [] [.pt p 0 (su.cs u), .sl u 4 (tks tl), .sl v 1 (ints l), .sl v2 1 (ints l2)] := H
  refine wp_ldn H (o := 0) (n := 7) (cs := su.cs u) (by repeat (first | exact List.Mem.head _ | apply List.Mem.tail)) rfl ?_
  show wp EM (.call _ [.agg (su.cs u)] _) _ _
  have hsu' := hsu
  unfold Su.small at hsu'
  refine wp_call (wpC_mono (new_ok (su := su) (l := tl) (by omega) (by repeat (first | exact List.Mem.head _ | apply List.Mem.tail)) H) fun r S4 q => ?_)
  rcases q with ⟨h, _⟩ | ⟨_, x, m, rfl, hbx, H⟩
  · exact absurd hchk h
  repeat (first|refine zA ?_|refine zB rfl ?_|refine zC ?_|refine zD ?_|refine zE rfl ?_|refine zF ?_|refine zG ?_|refine zH ?_|refine zI ?_|refine zJ ?_|refine zK ?_|refine zL rfl ?_|refine zN rfl ?_)
  refine wp_neq_f rfl ?_
  repeat (first|refine zA ?_|refine zB rfl ?_|refine zC ?_|refine zD ?_|refine zE rfl ?_|refine zF ?_|refine zG ?_|refine zH ?_|refine zI ?_|refine zJ ?_|refine zK ?_|refine zL rfl ?_|refine zN rfl ?_)
  refine wp_op (e_ptrNil (by kernel_rfl)) ?_
  repeat (first|refine zA ?_|refine zB rfl ?_|refine zC ?_|refine zD ?_|refine zE rfl ?_|refine zF ?_|refine zG ?_|refine zH ?_|refine zI ?_|refine zJ ?_|refine zK ?_|refine zL rfl ?_|refine zN rfl ?_)
  obtain ⟨nc, hnc⟩ : ∃ n : Nat, su.cores = (n : Int) := ⟨su.cores.toNat, by omega⟩
  have enc : su.cores.toNat = nc := by omega
  generalize hro0 : ([.sl m.vt 4 (tks tl), .pt p 0 (su.cs u), .sl u 4 (tks tl), .sl v 1 (ints l), .sl v2 1 (ints l2)] : List Fct) = ro0
  have m1 : Fct.sl m.vt 4 (tks tl) ∈ ro0 := by rw [← hro0]; exact (by repeat (first | exact List.Mem.head _ | apply List.Mem.tail))
  have m2 : Fct.pt p 0 (su.cs u) ∈ ro0 := by rw [← hro0]; exact (by repeat (first | exact List.Mem.head _ | apply List.Mem.tail))
  have m3 : Fct.sl u 4 (tks tl) ∈ ro0 := by rw [← hro0]; exact (by repeat (first | exact List.Mem.head _ | apply List.Mem.tail))
  have m4 : Fct.sl v2 1 (ints l2) ∈ ro0 := by rw [← hro0]; exact (by repeat (first | exact List.Mem.head _ | apply List.Mem.tail))
  have H : Cx S1 [] S4 (mOwn x (Ms.init su tl) m ++ []) ro0 := by rw [← hro0]; exact H
  rw [List.append_nil] at H
  refine wp_ld H (o := 0) (cs := su.cs u) m2 rfl ?_
  rw [hnc]
  refine wp_mksliceN (z := [Ns]) (n := nc) rfl H (by omega) (by omega) fun vM S5 H => ?_
  repeat (first|refine zA ?_|refine zB rfl ?_|refine zC ?_|refine zD ?_|refine zE rfl ?_|refine zF ?_|refine zG ?_|refine zH ?_|refine zI ?_|refine zJ ?_|refine zK ?_|refine zL rfl ?_|refine zN rfl ?_)
  refine wp_ld H (o := 0) (cs := su.cs u) m2 rfl ?_
  rw [hnc]
  refine wp_mksliceN (z := [I 0, U 0]) (n := nc) rfl H (by omega) (by omega) fun vR S6 H => ?_
  repeat (first|refine zA ?_|refine zB rfl ?_|refine zC ?_|refine zD ?_|refine zE rfl ?_|refine zF ?_|refine zG ?_|refine zH ?_|refine zI ?_|refine zJ ?_|refine zK ?_|refine zL rfl ?_|refine zN rfl ?_)
  refine wp_ld H (o := 6) (cs := su.cs u) m2 rfl ?_
  refine wp_len H (v := u) (es := 4) (L := tks tl) m3 ?_
  rw [tks_len]
  refine wp_mksliceN (z := [U 0]) (n := tl.length) rfl H (by omega) (by omega) fun vA S7 H => ?_
  have H := ((H.addNilS 1).addNilS 1).addNils 2 nc
  let g0 : Gh := ⟨[], [], List.replicate su.cores.toNat [], List.replicate su.cores.toNat (0, 0), List.replicate tl.length 0⟩
  have H : Cx S1 [] S7 (gOwn g0 ⟨Ns, Ns, vM, vR, vA, List.replicate nc Ns⟩ ++ mOwn x (Ms.init su tl) m) ro0 := by
    have q : gOwn g0 ⟨Ns, Ns, vM, vR, vA, List.replicate nc Ns⟩ ++ mOwn x (Ms.init su tl) m = Own.sl Ns 1 [] :: .sl Ns 1 [] :: .sl vM 1 (List.replicate nc [Ns]) :: .sl vR 2 (List.replicate nc [I 0, U 0]) :: .sl vA 1 (List.replicate tl.length [U 0]) :: (List.replicate nc (.sl Ns 2 []) ++ mOwn x (Ms.init su tl) m) := by
      show Own.sl Ns 1 [] :: .sl Ns 1 [] :: .sl vM 1 (ptrs (List.replicate nc Ns)) :: .sl vR 2 (tds (List.replicate su.cores.toNat (0, 0))) :: .sl vA 1 (uints (List.replicate tl.length 0)) :: (List.zipWith gbox (List.replicate nc Ns) (List.replicate su.cores.toNat []) ++ mOwn x (Ms.init su tl) m) = _
      rw [enc, rep_gbox, ptrs_rep]
      unfold tds uints
      rw [List.map_replicate, List.map_replicate]
    rw [q]
    refine H.perm ?_
    generalize mOwn x (Ms.init su tl) m = Y
    generalize List.replicate nc (Own.sl Ns 2 []) = Z
    generalize Own.sl vM 1 _ = a
    generalize Own.sl vR 2 _ = b
    generalize Own.sl vA 1 _ = c
    generalize Own.sl Ns 1 [] = d
    refine List.Perm.trans (List.perm_append_comm_assoc Z [d, d, c, b, a] Y) ?_
    refine List.Perm.append_right (Z ++ Y) (l₁ := [d, d, c, b, a]) (l₂ := [d, d, a, b, c]) ?_
    refine List.Perm.cons d (List.Perm.cons d ?_)
    exact (List.perm_middle (l₁ := [c, b]) (l₂ := []) (a := a)).trans (List.Perm.cons a (List.Perm.swap _ _ _))
  have hK0 : Kp S1 S7 su tl ro0 x m.vt vM vR vA 0 (Ms.init su tl) m g0 ⟨Ns, Ns, vM, vR, vA, List.replicate nc Ns⟩ := ⟨rfl, rfl, .init hchk, .init hchk, Int.le_refl _, by show (jobs0 su.jobs.toNat).length ≤ 12; rw [jobs0_len]; omega, Nat.le_refl _, hbx, rfl, by show (List.replicate nc Ns).length = (List.replicate su.cores.toNat _).length; rw [List.length_replicate, List.length_replicate, enc], ⟨rfl, rfl, rfl⟩, H⟩
  clear H
  refine wp_bind (wp_loop (wpL_for l2.length (fun i vs S5 => ∃ (j0 f : AV) (s : Ms) (m2 : Mv) (g : Gh) (w : Gv), vs = [I (i : Int), j0, w.vL, w.vK, f] ∧ Kp S1 S5 su tl ro0 x m.vt vM vR vA i s m2 g w) ?_ ?_ ⟨_, _, _, _, _, _, rfl, hK0⟩))
  · clear hK0
    rintro i vs S8 hlt ⟨j0, f, s, m2', g, w, rfl, K⟩
    obtain ⟨rfl, rfl, hI, hG, hq, hjl, hkl, hbx2, hvt, hgx, ⟨rfl, rfl, rfl⟩, HK⟩ := K
    have H := HK
    clear HK
    obtain ⟨len1, len2, len3⟩ := hG.lens hI hjl
    refine wp_len H (v := v2) (es := 1) (L := ints l2) m4 ?_
    rw [ints_len]
    refine wp_lss_t (by omega) ?_
    repeat (first|refine zA ?_|refine zB rfl ?_|refine zC ?_|refine zD ?_|refine zE rfl ?_|refine zF ?_|refine zG ?_|refine zH ?_|refine zI ?_|refine zJ ?_|refine zK ?_|refine zL rfl ?_|refine zN rfl ?_)
    refine wp_bind ?_
    have hx2 : l2[i]? = some l2[i] := List.getElem?_eq_getElem hlt
    generalize l2[i] = a at hx2
    refine wp_ldn H (o := 0) (n := 7) (cs := s.su.cs u) m2 rfl ?_
    refine wp_saddr H (v := v2) (es := 1) (L := ints l2) m4 (ints_get? hx2) fun p1 o1 H1 => ?_
    refine wp_load0 H1 (cs := [I a]) (by repeat (first | exact List.Mem.head _ | apply List.Mem.tail)) rfl ?_
    refine wp_alloc H1.tl fun d S9 H => ?_
    refine wp_Pick H (by omega) fun S10 H => ?_
    have hp := pick_bd (a := a) (n := 1000) (by omega)
    have hu : slOk S10 u 4 (tks s.T) := H.rh _ m3
    refine wp_chkn H (off := 0) (j := 0) (n := 7) (cs := s.su.cs u) m2 (Nat.le_of_ble_eq_true rfl) (l := s.su.cs u) rfl (fun y hy => by
      simp only [Su.cs, List.mem_cons, List.not_mem_nil, or_false] at hy
      rcases hy with rfl | rfl | rfl | rfl | rfl | rfl | rfl
      · exact beq_num
      · exact beq_num
      · exact beq_num
      · exact beq_num
      · exact beq_num
      · exact beq_num
      · exact beq_sl hu) ?_
    show wp EM (.call _ [.agg (s.su.cs u), I (pick a 1000), I (i : Int)] _) _ _
    have hc := hI.wf.c64
    refine wp_callV H (deal_ok (s := s.su) (u := u) (l := s.T) (n := pick a 1000) (now := i) hc ⟨ht1, by omega⟩ ⟨hp.1, by omega⟩ (H.roSl m3)) fun S11 H => ?_
    obtain ⟨hk5, hfit5⟩ := dAt_fits (n := pick a 1000) (i := i) hI.wf hp.1 ht1 ⟨by omega, by omega⟩
    obtain ⟨at', hat⟩ : ∃ at' : Nat, dAt s.su s.T (pick a 1000) = (at' : Int) := ⟨(dAt s.su s.T (pick a 1000)).toNat, by have := hfit5.2.1; omega⟩
    rw [hat] at hfit5 ⊢
    generalize dKind (pick a 1000) = kind at hk5 hfit5 ⊢
    refine wp_store H 0 rfl rfl rfl (Nat.le_of_ble_eq_true rfl) fun S12 H => ?_
    have H : Cx S1 [] S12 (gOwn g w ++ mOwn x s m2') (.pt d 0 [I kind, I (at' : Int), I (i : Int)] :: ro0) := H.freeze (i := 0) (c := [I kind, I (at' : Int), I (i : Int)]) rfl
    refine wp_ldn H (o := 0) (n := 3) (cs := [I kind, I (at' : Int), I (i : Int)]) (by repeat (first | exact List.Mem.head _ | apply List.Mem.tail)) rfl ?_
    have H := H.perm List.perm_append_comm
    have hfit : Fit s m2' (.pt d 0 [I kind, I (at' : Int), I (i : Int)] :: ro0) := hI.fit hbx2 hjl (by rw [hvt]; exact List.mem_cons_of_mem _ m1) (by omega)
    show wp EM (.call _ [.ptr x 0, Deal kind at' i] _) _ _
    refine wp_call (wpC_mono (do_ok hfit H) fun r S13 q => ?_)
    obtain ⟨r1, e, s', m', rfl, hdo, hbx3, hvt3, H⟩ := q
    have hto := hdo.told hfit
    have hI' := hdo.inv hI (by omega)
    obtain ⟨t1, t2, t3, t4, t5, _⟩ := hto
    have hop : OpR s kind at' i r1 e s' := by
      rcases hdo with ⟨h, _⟩ | ⟨_, h, _⟩ | ⟨_, _, h⟩
      · exact absurd hk5 h
      · exact absurd hfit5 h
      · exact h
    have hkept := hop.kept hI hG hfit5
    rw [Int.toNat_natCast] at hkept
    have H := H.perm List.perm_append_comm
    obtain ⟨tj, tk, htk, hz, hnz⟩ := told_pair s' r1 e
    rw [htk]
    repeat (first|refine zA ?_|refine zB rfl ?_|refine zC ?_|refine zD ?_|refine zE rfl ?_|refine zF ?_|refine zG ?_|refine zH ?_|refine zI ?_|refine zJ ?_|refine zK ?_|refine zL rfl ?_|refine zN rfl ?_)
    refine wp_tmpN H rfl rfl rfl fun qq S14 H => ?_
    have H : Cx S1 [] S14 (gOwn g w ++ mOwn x s' m') (.pt qq 0 [I tj, U tk] :: .pt d 0 [I kind, I (at' : Int), I (i : Int)] :: ro0) := H
    have hmk : ∀ {S15 : AH} {g' : Gh} {w' : Gv}, GRel s' g' → g'.keys.length ≤ i + 1 → w'.bx.length = g'.mail.length → (w'.vM = w.vM ∧ w'.vR = w.vR ∧ w'.vA = w.vA) → Cx S1 [] S15 (gOwn g' w' ++ mOwn x s' m') (.pt qq 0 [I tj, U tk] :: .pt d 0 [I kind, I (at' : Int), I (i : Int)] :: ro0) → Kp S1 S15 s.su s.T ro0 x m.vt w.vM w.vR w.vA (i + 1) s' m' g' w' := fun G' q1 q2 q3 q4 => ⟨t3, t4, hI', G', by omega, by omega, q1, hbx3, by rw [hvt3, hvt], q2, q3, q4.tl.tl⟩
    rcases hkept with ⟨he, G', hk2⟩ | ⟨rfl, hkept⟩
    · -- it was refused
      refine wp_neq_t he ?_
      repeat (first|refine zA ?_|refine zB rfl ?_|refine zC ?_|refine zD ?_|refine zE rfl ?_|refine zF ?_|refine zG ?_|refine zH ?_|refine zI ?_|refine zJ ?_|refine zK ?_|refine zL rfl ?_|refine zN rfl ?_)
      obtain ⟨rfl, rfl⟩ := hz he
      refine wp_ldn H (o := 0) (n := 2) (cs := [I 0, U 0]) (by repeat (first | exact List.Mem.head _ | apply List.Mem.tail)) rfl ?_
      refine wp_op (v := .agg [I 0, U 0]) rfl ?_
      refine wp_op e_told ?_
      have e0 : (if true = true then !(decide ((0 : Int) = 0) && decide ((0 : Int) = 0)) else (decide ((0 : Int) = 0) && decide ((0 : Int) = 0))) = false := by simp
      rw [e0]
      unfold Try.a5x2 Try.a5x1 Try.a5x0
      repeat (first|refine zA ?_|refine zB rfl ?_|refine zC ?_|refine zD ?_|refine zE rfl ?_|refine zF ?_|refine zG ?_|refine zH ?_|refine zI ?_|refine zJ ?_|refine zK ?_|refine zL rfl ?_|refine zN rfl ?_)
      refine wp_ld H (o := 0) (cs := [I kind, I (at' : Int), I (i : Int)]) (by repeat (first | exact List.Mem.head _ | apply List.Mem.tail)) rfl ?_
      repeat (first|refine zA ?_|refine zB rfl ?_|refine zC ?_|refine zD ?_|refine zE rfl ?_|refine zF ?_|refine zG ?_|refine zH ?_|refine zI ?_|refine zJ ?_|refine zK ?_|refine zL rfl ?_|refine zN rfl ?_)
      have next : wp EM (.op (.bin .add (I (i : Int)) (I 1)) fun v29 => .ret .normal [v29, j0, w.vL, w.vK, f]) S14 fun t vs1 S1_1 => (t = .normal ∧ ∃ (j0 f : AV) (s1 : Ms) (m2 : Mv) (g : Gh) (w1 : Gv), vs1 = [I ((i + 1 : Nat) : Int), j0, w1.vL, w1.vK, f] ∧ Kp S1 S1_1 s.su s.T ro0 x m.vt w.vM w.vR w.vA (i + 1) s1 m2 g w1) := by
        exact wp_add64 (by omega) (by omega) (wp_ret ⟨rfl, j0, f, s', m', g, w, rfl, hmk G' (by omega) hgx ⟨rfl, rfl, rfl⟩ H⟩)
      refine wp_eql (fun hk => ?_) (fun hk => ?_)
      · obtain ⟨rfl, hbn⟩ := hk2 hk
        obtain ⟨b, hb1, hb2⟩ := wp_gboxAt H hgx hbn
        have hbl := (List.getElem?_eq_some_iff.1 hb1).1
        repeat (first|refine zA ?_|refine zB rfl ?_|refine zC ?_|refine zD ?_|refine zE rfl ?_|refine zF ?_|refine zG ?_|refine zH ?_|refine zI ?_|refine zJ ?_|refine zK ?_|refine zL rfl ?_|refine zN rfl ?_)
        refine wp_neq_f rfl ?_
        repeat (first|refine zA ?_|refine zB rfl ?_|refine zC ?_|refine zD ?_|refine zE rfl ?_|refine zF ?_|refine zG ?_|refine zH ?_|refine zI ?_|refine zJ ?_|refine zK ?_|refine zL rfl ?_|refine zN rfl ?_)
        refine wp_ld H (o := 1) (cs := [I kind, I (at' : Int), I (i : Int)]) (by repeat (first | exact List.Mem.head _ | apply List.Mem.tail)) rfl ?_
        repeat (first|refine zA ?_|refine zB rfl ?_|refine zC ?_|refine zD ?_|refine zE rfl ?_|refine zF ?_|refine zG ?_|refine zH ?_|refine zI ?_|refine zJ ?_|refine zK ?_|refine zL rfl ?_|refine zN rfl ?_)
        refine wp_at (es := 1) H 2 rfl (by rw [ptrs_len]; exact hbl) fun id off hpt => ?_
        repeat (first|refine zA ?_|refine zB rfl ?_|refine zC ?_|refine zD ?_|refine zE rfl ?_|refine zF ?_|refine zG ?_|refine zH ?_|refine zI ?_|refine zJ ?_|refine zK ?_|refine zL rfl ?_|refine zN rfl ?_)
        refine wp_atL0 H 2 rfl hpt (ptrs_get? hb1) rfl ?_
        repeat (first|refine zA ?_|refine zB rfl ?_|refine zC ?_|refine zD ?_|refine zE rfl ?_|refine zF ?_|refine zG ?_|refine zH ?_|refine zI ?_|refine zJ ?_|refine zK ?_|refine zL rfl ?_|refine zN rfl ?_)
        refine wp_leno H (at' + 5) hb2 ?_
        repeat (first|refine zA ?_|refine zB rfl ?_|refine zC ?_|refine zD ?_|refine zE rfl ?_|refine zF ?_|refine zG ?_|refine zH ?_|refine zI ?_|refine zJ ?_|refine zK ?_|refine zL rfl ?_|refine zN rfl ?_)
        refine wp_gtr_f (by rw [tds_len]; simp) ?_
        repeat (first|refine zA ?_|refine zB rfl ?_|refine zC ?_|refine zD ?_|refine zE rfl ?_|refine zF ?_|refine zG ?_|refine zH ?_|refine zI ?_|refine zJ ?_|refine zK ?_|refine zL rfl ?_|refine zN rfl ?_)
        refine wp_ret ?_
        show wp EM _ _ _
        exact wp_mono next fun t vs S' q => .inl q
      · repeat (first|refine zA ?_|refine zB rfl ?_|refine zC ?_|refine zD ?_|refine zE rfl ?_|refine zF ?_|refine zG ?_|refine zH ?_|refine zI ?_|refine zJ ?_|refine zK ?_|refine zL rfl ?_|refine zN rfl ?_)
        refine wp_ret ?_
        show wp EM _ _ _
        exact wp_mono next fun t vs S' q => .inl q
    · -- it was done
      have hpair := hnz rfl
      refine wp_neq_f rfl ?_
      repeat (first|refine zA ?_|refine zB rfl ?_|refine zC ?_|refine zD ?_|refine zE rfl ?_|refine zF ?_|refine zG ?_|refine zH ?_|refine zI ?_|refine zJ ?_|refine zK ?_|refine zL rfl ?_|refine zN rfl ?_)
      refine wp_ld H (o := 0) (cs := [I kind, I (at' : Int), I (i : Int)]) (by repeat (first | exact List.Mem.head _ | apply List.Mem.tail)) rfl ?_
      refine wp_bind ?_
      -- behind it: just these are live
      have fin : ∀ {S15 : AH} {g' : Gh} {w' : Gv} {j1 f1 : AV}, GRel s' g' → g'.keys.length ≤ i + 1 → w'.bx.length = g'.mail.length → (w'.vM = w.vM ∧ w'.vR = w.vR ∧ w'.vA = w.vA) → Cx S1 [] S15 (gOwn g' w' ++ mOwn x s' m') (.pt qq 0 [I tj, U tk] :: .pt d 0 [I kind, I (at' : Int), I (i : Int)] :: ro0) →
          wp EM (Try.a5x26 (.ptr x 0) [j1, w'.vL, w'.vK, f1]) S15 fun t vs S' => t = .normal ∧ vs = [j1, w'.vL, w'.vK, f1] ∧ Kp S1 S' s.su s.T ro0 x m.vt w.vM w.vR w.vA (i + 1) s' m' g' w' := by
        intro S15 g' w' j1 f1 G' q1 q2 q3 H
        unfold Try.a5x26
        have H := H.perm List.perm_append_comm
        refine wp_call (wpC_mono (live_ok hI'.wf (by omega) H) fun r S16 q => ?_)
        obtain ⟨L, hL, hLl, H⟩ := q
        have hth := G'.these hI' hL
        have hLl2 : L.length ≤ 12 := by
          rw [hLl]
          have := List.length_filter_le isLive s'.jobs
          unfold liv; omega
        have H := H.perm (List.Perm.cons _ List.perm_append_comm)
        refine wp_callV H (theseK_ok (L := L) (l := g'.live) (by omega) (by omega) (H.ownSl (n := 0) rfl) (H.ownSl (n := 2) rfl)) fun S17 H => ?_
        rw [decide_eq_true hth]
        refine wp_notT ?_
        repeat (first|refine zA ?_|refine zB rfl ?_|refine zC ?_|refine zD ?_|refine zE rfl ?_|refine zF ?_|refine zG ?_|refine zH ?_|refine zI ?_|refine zJ ?_|refine zK ?_|refine zL rfl ?_|refine zN rfl ?_)
        exact wp_ret ⟨rfl, rfl, hmk G' q1 q2 q3 (H.dropAt 0)⟩
      have fin2 : ∀ {S15 : AH} {g' : Gh} {w' : Gv} {j1 f1 : AV}, GRel s' g' → g'.keys.length ≤ i + 1 → w'.bx.length = g'.mail.length → (w'.vM = w.vM ∧ w'.vR = w.vR ∧ w'.vA = w.vA) → Cx S1 [] S15 (gOwn g' w' ++ mOwn x s' m') (.pt qq 0 [I tj, U tk] :: .pt d 0 [I kind, I (at' : Int), I (i : Int)] :: ro0) →
          wp EM (Try.a5x26 (.ptr x 0) [j1, w'.vL, w'.vK, f1]) S15 (boundTo EM (some 1) (fun v28 => .op (.bin .add (I (i : Int)) (I 1)) fun v29 => .ret .normal [v29, nth v28 0, nth v28 1, nth v28 2, nth v28 3]) (fun v28 => [I (i : Int), nth v28 0, nth v28 1, nth v28 2, nth v28 3]) fun t vs1 S1_1 => (t = .normal ∧ ∃ (j0 f : AV) (s1 : Ms) (m2 : Mv) (g : Gh) (w1 : Gv), vs1 = [I ((i + 1 : Nat) : Int), j0, w1.vL, w1.vK, f] ∧ Kp S1 S1_1 s.su s.T ro0 x m.vt w.vM w.vR w.vA (i + 1) s1 m2 g w1) ∨ (t ≠ .normal ∧ boundTo EM (some 0) (fun v25 => .ret .ret [B true]) (fun v25 => [nth v25 4]) (fun t vs S' => t = .ret ∧ oneOf vs = B true) t [nth vs1 0, nth vs1 1, nth vs1 2, nth vs1 3, nth vs1 4] S1_1)) := by
        intro S15 g' w' j1 f1 G' q1 q2 q3 H
        refine wp_mono (fin G' q1 q2 q3 H) fun t vs S' q => ?_
        obtain ⟨rfl, rfl, K⟩ := q
        show wp EM _ _ _
        exact wp_add64 (by omega) (by omega) (wp_ret (.inl ⟨rfl, j1, f1, s', m', g', w', rfl, K⟩))
      unfold Try.a5x26 at fin2
      unfold Try.a5x26 Try.a5x25
      have hmd : Fct.pt d 0 [I kind, I (at' : Int), I (i : Int)] ∈ (.pt qq 0 [I tj, U tk] :: .pt d 0 [I kind, I (at' : Int), I (i : Int)] :: ro0) := by repeat (first | exact List.Mem.head _ | apply List.Mem.tail)
      have hmq : Fct.pt qq 0 [I tj, U tk] ∈ (.pt qq 0 [I tj, U tk] :: .pt d 0 [I kind, I (at' : Int), I (i : Int)] :: ro0) := by repeat (first | exact List.Mem.head _ | apply List.Mem.tail)
      have hmp : Fct.pt p 0 (s.su.cs u) ∈ (.pt qq 0 [I tj, U tk] :: .pt d 0 [I kind, I (at' : Int), I (i : Int)] :: ro0) := List.mem_cons_of_mem _ (List.mem_cons_of_mem _ m2)
      rcases hkept with ⟨hk, hr0, k1, ⟨la, k2, k3⟩, k4, hh, bl, k5, k6, G'⟩ | ⟨hk, hr0, bl, k1, G'⟩ | ⟨hk, G'⟩ | ⟨hk, hr0, k1, k2, G'⟩
      · rw [toldOf_pos hr0] at hpair
        cases hpair
        refine wp_eql_t hk ?_
        refine wp_bind ?_
        repeat (first|refine zA ?_|refine zB rfl ?_|refine zC ?_|refine zD ?_|refine zE rfl ?_|refine zF ?_|refine zG ?_|refine zH ?_|refine zI ?_|refine zJ ?_|refine zK ?_|refine zL rfl ?_|refine zN rfl ?_)
        refine wp_mono (rel_step (i := i) (j0 := j0) (f := f) hmp hmd hmq hc k1 k2 k3 k4 k5 k6 hgx (by omega) (by omega) (by have := len2 bl (List.mem_of_getElem? k6); omega) H) fun t vs S15 q => ?_
        obtain ⟨rfl, w', rfl, q1, q2, H⟩ := q
        show wp EM _ _ _
        refine wp_ret ?_
        show wp EM _ _ _
        exact fin2 G' (by simp; omega) (by rw [q2, hgx]; simp) q1 H
      · rw [toldOf_pos hr0] at hpair
        cases hpair
        refine wp_eql_f (by omega) ?_
        unfold Try.a5x24
        refine wp_bind ?_
        repeat (first|refine zA ?_|refine zB rfl ?_|refine zC ?_|refine zD ?_|refine zE rfl ?_|refine zF ?_|refine zG ?_|refine zH ?_|refine zI ?_|refine zJ ?_|refine zK ?_|refine zL rfl ?_|refine zN rfl ?_)
        refine wp_eql_t hk ?_
        refine wp_bind ?_
        repeat (first|refine zA ?_|refine zB rfl ?_|refine zC ?_|refine zD ?_|refine zE rfl ?_|refine zF ?_|refine zG ?_|refine zH ?_|refine zI ?_|refine zJ ?_|refine zK ?_|refine zL rfl ?_|refine zN rfl ?_)
        refine wp_mono (take_step (i := i) (j0 := j0) (f := f) hmd hmq k1 hgx H) fun t vs S15 q => ?_
        obtain ⟨rfl, w', rfl, q0, q1, q2, H⟩ := q
        show wp EM _ _ _
        refine wp_ret ?_
        show wp EM _ _ _
        refine wp_ret ?_
        show wp EM _ _ _
        rw [← q0]
        exact fin2 (w' := w') G' (by show g.keys.length ≤ i + 1; omega) (by rw [q2, hgx]; simp) q1 H
      · refine wp_eql_f (by omega) ?_
        unfold Try.a5x24
        refine wp_bind ?_
        repeat (first|refine zA ?_|refine zB rfl ?_|refine zC ?_|refine zD ?_|refine zE rfl ?_|refine zF ?_|refine zG ?_|refine zH ?_|refine zI ?_|refine zJ ?_|refine zK ?_|refine zL rfl ?_|refine zN rfl ?_)
        refine wp_eql_f (by omega) ?_
        refine wp_bind ?_
        unfold Try.a5x23 Try.a5x17
        repeat (first|refine zA ?_|refine zB rfl ?_|refine zC ?_|refine zD ?_|refine zE rfl ?_|refine zF ?_|refine zG ?_|refine zH ?_|refine zI ?_|refine zJ ?_|refine zK ?_|refine zL rfl ?_|refine zN rfl ?_)
        have hrl : at' < g.runs.length := by
          have h1 := hfit5.2.2
          unfold most at h1
          rw [if_neg (by omega)] at h1
          have h2 := hI.wf.rl
          rw [hG.rl]; omega
        have last : ∀ {S15 : AH}, Cx S1 [] S15 (gOwn g w ++ mOwn x s' m') (.pt qq 0 [I tj, U tk] :: .pt d 0 [I kind, I (at' : Int), I (i : Int)] :: ro0) → wp EM (Try.a5x22 w.vR [I (i : Int), j0, w.vL, w.vK, f] (.ptr d 0) (.ptr qq 0) [B true]) S15 fun t vs S' => t = .normal ∧ vs = [w.vL, f] ∧ Cx S1 [] S' (gOwn { g with runs := g.runs.set at' (tj, tk) } w ++ mOwn x s' m') (.pt qq 0 [I tj, U tk] :: .pt d 0 [I kind, I (at' : Int), I (i : Int)] :: ro0) := fun H => run_step hmd hmq hrl H
        rw [← hpair] at G'
        refine wp_eql (fun h3 => ?_) (fun h3 => ?_)
        · refine wp_bind ?_
          repeat (first|refine zA ?_|refine zB rfl ?_|refine zC ?_|refine zD ?_|refine zE rfl ?_|refine zF ?_|refine zG ?_|refine zH ?_|refine zI ?_|refine zJ ?_|refine zK ?_|refine zL rfl ?_|refine zN rfl ?_)
          refine wp_ret ?_
          show wp EM _ _ _
          refine wp_bind ?_
          refine wp_mono (last H) fun t vs S15 q => ?_
          obtain ⟨rfl, rfl, H⟩ := q
          show wp EM _ _ _
          refine wp_ret ?_
          show wp EM _ _ _
          refine wp_ret ?_
          show wp EM _ _ _
          refine wp_ret ?_
          show wp EM _ _ _
          exact fin2 (w' := w) G' (by show g.keys.length ≤ i + 1; omega) hgx ⟨rfl, rfl, rfl⟩ H
        · refine wp_bind ?_
          repeat (first|refine zA ?_|refine zB rfl ?_|refine zC ?_|refine zD ?_|refine zE rfl ?_|refine zF ?_|refine zG ?_|refine zH ?_|refine zI ?_|refine zJ ?_|refine zK ?_|refine zL rfl ?_|refine zN rfl ?_)
          refine wp_eql_t (by omega) ?_
          refine wp_ret ?_
          show wp EM _ _ _
          refine wp_bind ?_
          refine wp_mono (last H) fun t vs S15 q => ?_
          obtain ⟨rfl, rfl, H⟩ := q
          show wp EM _ _ _
          refine wp_ret ?_
          show wp EM _ _ _
          refine wp_ret ?_
          show wp EM _ _ _
          refine wp_ret ?_
          show wp EM _ _ _
          exact fin2 (w' := w) G' (by show g.keys.length ≤ i + 1; omega) hgx ⟨rfl, rfl, rfl⟩ H
      · rw [toldOf_pos hr0] at hpair
        cases hpair
        refine wp_eql_f (by omega) ?_
        unfold Try.a5x24
        refine wp_bind ?_
        repeat (first|refine zA ?_|refine zB rfl ?_|refine zC ?_|refine zD ?_|refine zE rfl ?_|refine zF ?_|refine zG ?_|refine zH ?_|refine zI ?_|refine zJ ?_|refine zK ?_|refine zL rfl ?_|refine zN rfl ?_)
        refine wp_eql_f (by omega) ?_
        refine wp_bind ?_
        unfold Try.a5x23 Try.a5x17
        repeat (first|refine zA ?_|refine zB rfl ?_|refine zC ?_|refine zD ?_|refine zE rfl ?_|refine zF ?_|refine zG ?_|refine zH ?_|refine zI ?_|refine zJ ?_|refine zK ?_|refine zL rfl ?_|refine zN rfl ?_)
        refine wp_eql_f (by omega) ?_
        refine wp_bind ?_
        repeat (first|refine zA ?_|refine zB rfl ?_|refine zC ?_|refine zD ?_|refine zE rfl ?_|refine zF ?_|refine zG ?_|refine zH ?_|refine zI ?_|refine zJ ?_|refine zK ?_|refine zL rfl ?_|refine zN rfl ?_)
        refine wp_eql_f (by omega) ?_
        refine wp_ret ?_
        show wp EM _ _ _
        refine wp_bind ?_
        refine wp_mono (end_step (i := i) (j0 := j0) (f := f) hmd hmq k1 k2 (by omega) H) fun t vs S15 q => ?_
        obtain ⟨rfl, vL, rfl, H⟩ := q
        show wp EM _ _ _
        refine wp_ret ?_
        show wp EM _ _ _
        refine wp_ret ?_
        show wp EM _ _ _
        refine wp_ret ?_
        show wp EM _ _ _
        exact fin2 (w' := { w with vL := vL }) G' (by show g.keys.length ≤ i + 1; omega) hgx ⟨rfl, rfl, rfl⟩ H
  · clear hK0
    rintro vs S5 ⟨j0, f, s, m2', g, w, rfl, K⟩
    refine wp_len K.H (v := v2) (es := 1) (L := ints l2) m4 ?_
    rw [ints_len]
    refine wp_lss_f (by omega) ?_
    repeat (first|refine zA ?_|refine zB rfl ?_|refine zC ?_|refine zD ?_|refine zE rfl ?_|refine zF ?_|refine zG ?_|refine zH ?_|refine zI ?_|refine zJ ?_|refine zK ?_|refine zL rfl ?_|refine zN rfl ?_)
    refine wp_ret ⟨by simp, ?_⟩
    show wp EM _ _ _
    exact wp_ret ⟨rfl, rfl⟩
end
end Go.Abs
