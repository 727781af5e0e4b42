/- functions of this cut: what they compute, in the abstract machine. Conditions: stated in each theorem -/
import Derived.Test.YtapphfcflichmaaE2
set_option linter.unusedVariables false
set_option linter.unusedSimpArgs false
namespace Go.Abs
open Go.Proofs
set_option maxRecDepth 100000
set_option linter.unusedVariables false
/-! ### parts of a slice -/
theorem slOk_prefix {M : Mach} {S : AH} {v : AV} {es i : Nat} {L : List (List AV)} (hs : slOk S v es L) (hi : i ≤ L.length) :
    ∃ v', evalOp M.P (.sslice es v none (some (I (i : Int))) none) S = some (v', S) ∧ slOk S v' es (L.take i) := by
  rcases hs with ⟨rfl, rfl⟩ | ⟨id, off, c, h0, h1, h2, h3⟩
  · have i0 : i = 0 := by simpa using hi
    subst i0
    exact ⟨Ns, rfl, .inl ⟨rfl, by simp⟩⟩
  · obtain ⟨v', e1, e2⟩ := slForm_sub (M := M) (S := S) h0 hi
    refine ⟨v', e1, .inr ⟨id, off, c, by rw [List.length_take, Nat.min_eq_left hi]; exact e2, h1, ?_, fun x hx => h3 x (List.mem_of_mem_take hx)⟩⟩
    rw [List.length_take, Nat.min_eq_left hi, ← take_flat h3, ← h2, List.take_take, Nat.min_eq_left (Nat.mul_le_mul_right es hi)]
theorem slOk_suffix {M : Mach} {S : AH} {v : AV} {es i : Nat} {L : List (List AV)} (hs : slOk S v es L) (hi : i ≤ L.length) :
    ∃ v', evalOp M.P (.sslice es v (some (I (i : Int))) none none) S = some (v', S) ∧ slOk S v' es (L.drop i) := by
  rcases hs with ⟨rfl, rfl⟩ | ⟨id, off, c, h0, h1, h2, h3⟩
  · have i0 : i = 0 := by simpa using hi
    subst i0
    exact ⟨Ns, rfl, .inl ⟨rfl, by simp⟩⟩
  · have hsub : (L.length - i) * es = L.length * es - i * es := Nat.sub_mul ..
    have hie : i * es ≤ L.length * es := Nat.mul_le_mul_right es hi
    have hall : ∀ x ∈ L.drop i, x.length = es := fun x hx => h3 x (List.mem_of_mem_drop hx)
    have main : ((c.drop (off + i * es)).take ((L.drop i).length * es)) = (L.drop i).flatten := by
      rw [List.length_drop, ← drop_flat h3, ← h2, List.drop_take, List.drop_drop, hsub]
    have nil : L.length = i → ∀ o, ((c.drop o).take ((L.drop i).length * es)) = (L.drop i).flatten := fun e o => by
      rw [List.drop_of_length_le (by omega)]; simp
    rcases h0 with ⟨cap, q1, q2, rfl⟩ | ⟨cap, q1, q2, rfl⟩
    · have hcs : (cap - i) * es = cap * es - i * es := Nat.sub_mul ..
      have hci : i * es ≤ cap * es := Nat.mul_le_mul_right es (by omega)
      refine ⟨.sl id (if Nat.beq cap i then off else Nat.add off (Nat.mul i es)) (L.length - i) (cap - i), ?_, .inr ⟨id, (if Nat.beq cap i then off else Nat.add off (Nat.mul i es)), c, .inl ⟨cap - i, by simp; omega, ?_, by simp⟩, h1, ?_, hall⟩⟩
      · show pur (pSslice es (.sl id off L.length cap) (some (I (i : Int))) none none) S = _
        unfold pSslice
        simp only [bnds_lo hi q1]
        rfl
      · by_cases e : Nat.beq cap i = true
        · rw [if_pos e]
          have := Nat.eq_of_beq_eq_true e
          subst this
          simp; omega
        · rw [if_neg e]
          show off + i * es + (cap - i) * es ≤ _
          omega
      · by_cases e : Nat.beq cap i = true
        · have := Nat.eq_of_beq_eq_true e
          exact nil (by omega) _
        · rw [if_neg e]; exact main
    · have hcs : (cap - i) * es = cap * es - i * es := Nat.sub_mul ..
      have hci : i * es ≤ cap * es := Nat.mul_le_mul_right es (by omega)
      refine ⟨.op id (Nat.add off (Nat.mul i es)) (L.length - i) (cap - i) es, ?_, .inr ⟨id, Nat.add off (Nat.mul i es), c, .inr ⟨cap - i, by simp; omega, ?_, by simp⟩, h1, main, hall⟩⟩
      · show pur (pSslice es (.op id off L.length cap es) (some (I (i : Int))) none none) S = _
        unfold pSslice
        simp only [bnds_lo hi q1, Nat.beq_refl]
        rfl
      · show off + i * es + (cap - i) * es ≤ _
        omega
/-! ### the document's wheel: a clock, and timers in order -/
def rOwn (r : Nat) (x : Wl) (v : AV) : List Own := [.obj r (.row [I (x.now : Int), v]), .sl v 2 (fis x.L)]
def RRep (r : Nat) (x : Wl) (blk : List Own) : Prop := x.Ok ∧ ∃ v, blk = rOwn r x v
section
variable {B0 S : AH} {W : List Nat} {own E R : List Own} {ro : List Fct} {Q : Post} {k : AV → AC} {r : Nat} {x : Wl} {blk : List Own} {v : AV}
theorem wp_bsl0 (H : Cx B0 W S own ro) {es : Nat} {z : List AV} (hz : z.length = es) (h : ∀ v S1, Cx B0 W S1 (.sl v es [] :: own) ro → wp EM (k v) S1 Q) : wp EM (.op (.bslice es 0 z []) k) S Q := by
  refine wp_op (v := .sl S.next 0 0 0) (S1 := S.new (.row [])) ?_ (h _ _ (H.addOwn (Grows.new S _) (x := .sl (.sl S.next 0 0 0) es []) ?_ ?_))
  · show nBslice es 0 z [] S = _
    unfold nBslice
    have e : (Nat.beq (lenL ([] : List AV)) (Nat.mul 0 es) && Nat.beq (lenL z) es) = true := by
      rw [lenL_eq, lenL_eq, hz, Nat.beq_refl, show Nat.mul 0 es = 0 from Nat.zero_mul es]; rfl
    show (match Nat.beq (lenL ([] : List AV)) (Nat.mul 0 es) && Nat.beq (lenL z) es with | true => lay S (.row []) fun id => .sl id 0 0 0 | false => none) = _
    rw [e]; rfl
  · exact .inr ⟨S.next, 0, [], .inl ⟨0, by simp, by simp, rfl⟩, get_new_same _ _, by simp, by simp⟩
  · intro id hid
    simp only [Own.ids, vids, List.mem_singleton] at hid
    subst hid
    exact ⟨Nat.le_refl _, by simp [AH.new]⟩
theorem rO_row : (E ++ (rOwn r x v ++ R))[E.length + 0]? = some (.obj r (.row [I (x.now : Int), v])) := app_get rfl
theorem rO_sl : (E ++ (rOwn r x v ++ R))[E.length + 1]? = some (.sl v 2 (fis x.L)) := app_get rfl
theorem Cx.rsl (H : Cx B0 W S (E ++ (rOwn r x v ++ R)) ro) : slOk S v 2 (fis x.L) := ownSl_ok (H.oh _ (List.mem_of_getElem? rO_sl))
theorem Cx.swapR {a o v' : Own} (H : Cx B0 W S (a :: (E ++ (o :: v' :: R))) ro) : Cx B0 W S (E ++ (o :: a :: R)) ro := by
  have s : (a :: (E ++ (o :: R))).Sublist (a :: (E ++ (o :: v' :: R))) := List.Sublist.cons_cons _ (List.Sublist.append (List.Sublist.refl _) (List.Sublist.cons_cons _ (List.sublist_cons_self _ _)))
  refine (H.dropOwn s).perm ?_
  exact List.perm_middle.symm.trans (List.Perm.append_left E (List.Perm.swap o a R))
theorem e_buildW {M : Mach} {u : AV} {es : Nat} {L : List (List AV)} {a : Int} (hs : slOk S u es L) : evalOp M.P (.build [I 0, Ns] [(0, 1, I a), (1, 1, u)]) S = some (.agg [I a, u], S) := by
  rcases hs with ⟨rfl, _⟩ | ⟨id, off, c, (⟨_, _, _, rfl⟩ | ⟨_, _, _, rfl⟩), _⟩ <;> rfl
theorem rtime_ok {t : Int} : wpC EM (.fn (.func 40) [] []) [I t] S fun r S' => r = B (decide (0 ≤ t ∧ t ≤ 1099511627776)) ∧ Grows S S' := by
  refine wpC_fn (b := Try.a40) rfl rfl ?_
  unfold Try.a40
  refine wp_geq (fun h => ?_) (fun h => ?_)
  · repeat (first|refine zA ?_|refine zB rfl ?_|refine zC ?_|refine zD ?_|refine zE rfl ?_|refine zF ?_|refine zG ?_|refine zH ?_|refine zI ?_|refine zJ ?_|refine zK ?_|refine zL rfl ?_|refine zN rfl ?_)
    refine wp_leq (fun h2 => ?_) (fun h2 => ?_)
    · repeat (first|refine zA ?_|refine zB rfl ?_|refine zC ?_|refine zD ?_|refine zE rfl ?_|refine zF ?_|refine zG ?_|refine zH ?_|refine zI ?_|refine zJ ?_|refine zK ?_|refine zL rfl ?_|refine zN rfl ?_)
      exact wp_ret ⟨rfl, by rw [decide_eq_true ⟨h, h2⟩]; rfl, Grows.refl _⟩
    · repeat (first|refine zA ?_|refine zB rfl ?_|refine zC ?_|refine zD ?_|refine zE rfl ?_|refine zF ?_|refine zG ?_|refine zH ?_|refine zI ?_|refine zJ ?_|refine zK ?_|refine zL rfl ?_|refine zN rfl ?_)
      exact wp_ret ⟨rfl, by rw [decide_eq_false (by omega)]; rfl, Grows.refl _⟩
  · repeat (first|refine zA ?_|refine zB rfl ?_|refine zC ?_|refine zD ?_|refine zE rfl ?_|refine zF ?_|refine zG ?_|refine zH ?_|refine zI ?_|refine zJ ?_|refine zK ?_|refine zL rfl ?_|refine zN rfl ?_)
    exact wp_ret ⟨rfl, by rw [decide_eq_false (by omega)]; rfl, Grows.refl _⟩
theorem rnew_ok (H : Cx B0 W S own ro) {now : Int} : wpC EM (.fn (.func 9) [] []) [I now] S fun r S' =>
    ((0 ≤ now ∧ now ≤ 1099511627776) ∧ ∃ w blk, r = .tup [.ptr w 0, I 0] ∧ RRep w ⟨now.toNat, []⟩ blk ∧ Cx B0 W S' (blk ++ own) ro) ∨ (¬ (0 ≤ now ∧ now ≤ 1099511627776) ∧ r = .tup [Np, I 3] ∧ Cx B0 W S' own ro) := by
  refine wpC_fn (b := Try.a9) rfl rfl ?_
  unfold Try.a9
  refine wp_callV H rtime_ok fun S1 H => ?_
  by_cases ht : 0 ≤ now ∧ now ≤ 1099511627776
  · rw [decide_eq_true ht]
    refine wp_op (v := B false) rfl ?_
    repeat (first|refine zA ?_|refine zB rfl ?_|refine zC ?_|refine zD ?_|refine zE rfl ?_|refine zF ?_|refine zG ?_|refine zH ?_|refine zI ?_|refine zJ ?_|refine zK ?_|refine zL rfl ?_|refine zN rfl ?_)
    obtain ⟨n, rfl⟩ : ∃ n : Nat, now = (n : Int) := ⟨now.toNat, by omega⟩
    refine wp_op (v := .agg [I (n : Int), Ns]) (by rfl) ?_
    refine wp_boxOwn H rfl fun w S3 H => ?_
    have H : Cx B0 W S3 (.obj w (.row [I (n : Int), Ns]) :: own) ro := H
    have H2 : Cx B0 W S3 (rOwn w ⟨(n : Int).toNat, []⟩ Ns ++ own) ro := (H.addNil 2).perm (List.Perm.swap _ _ _)
    exact wp_ret ⟨rfl, .inl ⟨ht, w, _, rfl, ⟨Wl.Ok.empty (by omega), Ns, rfl⟩, H2⟩⟩
  · rw [decide_eq_false ht]
    refine wp_op (v := B true) rfl ?_
    repeat (first|refine zA ?_|refine zB rfl ?_|refine zC ?_|refine zD ?_|refine zE rfl ?_|refine zF ?_|refine zG ?_|refine zH ?_|refine zI ?_|refine zJ ?_|refine zK ?_|refine zL rfl ?_|refine zN rfl ?_)
    exact wp_ret ⟨rfl, .inr ⟨ht, rfl, H⟩⟩
theorem rnow_ok (h : RRep r x blk) (H : Cx B0 W S (E ++ (blk ++ R)) ro) : wpC EM (.fn (.func 66) [] []) [.ptr r 0] S fun u S' => u = I (x.now : Int) ∧ Cx B0 W S' (E ++ (blk ++ R)) ro := by
  refine wpC_fn (b := Try.a66) rfl rfl ?_
  obtain ⟨ho, v, rfl⟩ := h
  unfold Try.a66
  repeat (first|refine zA ?_|refine zB rfl ?_|refine zC ?_|refine zD ?_|refine zE rfl ?_|refine zF ?_|refine zG ?_|refine zH ?_|refine zI ?_|refine zJ ?_|refine zK ?_|refine zL rfl ?_|refine zN rfl ?_)
  refine wp_row (j := 0) H _ rO_row rfl ?_
  exact wp_ret ⟨rfl, rfl, H⟩
theorem rlist_ok (h : RRep r x blk) (H : Cx B0 W S (E ++ (blk ++ R)) ro) : wpC EM (.fn (.func 44) [] []) [.ptr r 0] S fun u S' => Cx B0 W S' (.sl u 2 (fis x.L) :: (E ++ (blk ++ R))) ro := by
  refine wpC_fn (b := Try.a44) rfl rfl ?_
  obtain ⟨ho, v, rfl⟩ := h
  have hlen := ho.len
  unfold Try.a44
  refine wp_bsl0 H rfl fun u S1 H => ?_
  repeat (first|refine zA ?_|refine zB rfl ?_|refine zC ?_|refine zD ?_|refine zE rfl ?_|refine zF ?_|refine zG ?_|refine zH ?_|refine zI ?_|refine zJ ?_|refine zK ?_|refine zL rfl ?_|refine zN rfl ?_)
  refine wp_row (j := 1) H _ (rO_row (E := .sl u 2 [] :: E)) rfl ?_
  refine wp_append (N := fis x.L) H 0 rfl (by
    have := slOk_elems (Cx.rsl (E := .sl u 2 [] :: E) H)
    exact this) (fis_all _) (by rw [fis_len]; unfold maxBytes; simp; omega) (by rw [fis_len]; unfold maxLenN; simp; omega) fun u1 S2 H2 => ?_
  exact wp_ret ⟨rfl, H2⟩
theorem rcopy_ok (h : RRep r x blk) (H : Cx B0 W S (E ++ (blk ++ R)) ro) : wpC EM (.fn (.func 13) [] []) [.ptr r 0] S fun u S' => ∃ r' blk', u = .ptr r' 0 ∧ RRep r' x blk' ∧ Cx B0 W S' (blk' ++ (E ++ (blk ++ R))) ro := by
  refine wpC_fn (b := Try.a13) rfl rfl ?_
  unfold Try.a13
  have h0 := h
  obtain ⟨ho, v, rfl⟩ := h
  repeat (first|refine zA ?_|refine zB rfl ?_|refine zC ?_|refine zD ?_|refine zE rfl ?_|refine zF ?_|refine zG ?_|refine zH ?_|refine zI ?_|refine zJ ?_|refine zK ?_|refine zL rfl ?_|refine zN rfl ?_)
  refine wp_row (j := 0) H _ rO_row rfl ?_
  refine wp_call (wpC_mono (rlist_ok h0 H) fun u S1 H1 => ?_)
  refine wp_chkF (j := 0) (H1.ownPt (rO_row (E := .sl u 2 (fis x.L) :: E))).1 rfl beq_num ?_
  refine wp_op (e_buildW (ownSl_ok (H1.oh _ (List.Mem.head _)))) ?_
  unfold Try.a13x0
  refine wp_boxOwn H1 rfl fun r' S2 H2 => ?_
  exact wp_ret ⟨rfl, r', _, rfl, ⟨ho, u, rfl⟩, H2⟩
theorem rmv_take {id : Nat} {L : List Fi} {i : Nat} (h : i < L.length) : rmv id (L.take (i + 1)) = if L[i].id = id then rmv id (L.take i) else rmv id (L.take i) ++ [L[i]] := by
  unfold rmv
  rw [List.take_succ_eq_append_getElem h, List.filter_append]
  by_cases e : L[i].id = id
  · rw [if_pos e, List.filter_cons_of_neg (by simpa using e)]; simp
  · rw [if_neg e, List.filter_cons_of_pos (by simpa using e)]; rfl
theorem rwithout_ok {n id : Nat} {L : List Fi} (hm : own[n]? = some (.sl v 2 (fis L))) (hl : L.length < 1000) (H : Cx B0 W S own ro) :
    wpC EM (.fn (.func 95) [] []) [v, I (id : Int)] S fun u S' => Cx B0 W S' (.sl u 2 (fis (rmv id L)) :: own) ro := by
  refine wpC_fn (b := Try.a95) rfl rfl ?_
  unfold Try.a95
  refine wp_bind (wp_loop (wpL_inv (fun m vs S1 => ∃ (i : Nat) (u : AV), vs = [I (i : Int), u] ∧ i ≤ L.length ∧ m = L.length - i ∧ Cx B0 W S1 (.sl u 2 (fis (rmv id (L.take i))) :: own) ro) ?_ L.length ⟨0, Ns, rfl, by omega, by omega, H.addNil 2⟩))
  clear H
  rintro m vs S1 ⟨i, u, rfl, hi, rfl, H⟩
  have hm1 : (Own.sl u 2 (fis (rmv id (L.take i))) :: own)[n + 1]? = some (.sl v 2 (fis L)) := hm
  have hs := ownSl_ok (H.oh _ (List.mem_of_getElem? hm1))
  have hlr : (rmv id (L.take i)).length ≤ L.length := Nat.le_trans (List.length_filter_le ..) (by rw [List.length_take]; omega)
  unfold Try.a95x3
  refine wp_lenE hs ?_
  rw [fis_len]
  refine wp_lss (fun hlt => ?_) (fun hge => ?_)
  · have hlt : i < L.length := by omega
    repeat (first|refine zA ?_|refine zB rfl ?_|refine zC ?_|refine zD ?_|refine zE rfl ?_|refine zF ?_|refine zG ?_|refine zH ?_|refine zI ?_|refine zJ ?_|refine zK ?_|refine zL rfl ?_|refine zN rfl ?_)
    refine wp_bind ?_
    unfold Try.a95x1
    refine wp_elem (i := i) hs (fis_get hlt) fun q qo hp => ?_
    repeat (first|refine zA ?_|refine zB rfl ?_|refine zC ?_|refine zD ?_|refine zE rfl ?_|refine zF ?_|refine zG ?_|refine zH ?_|refine zI ?_|refine zJ ?_|refine zK ?_|refine zL rfl ?_|refine zN rfl ?_)
    refine wp_loadF (j := 0) hp rfl ?_
    unfold Try.a95x0
    refine wp_neq (fun hne => ?_) (fun he => ?_)
    · refine wp_bind (wp_ite_t ?_)
      refine wp_elem (i := i) hs (fis_get hlt) fun q2 qo2 hp2 => ?_
      refine wp_loadFn (j := 0) (n := 2) hp2 (by show 0 + 2 ≤ 2; omega) ?_
      rw [agg2]
      refine wp_push (L := fis (rmv id (L.take i))) (x := .agg L[i].cs) H 0 rfl rfl rfl rfl (by rw [fis_len]; unfold maxBytes; omega) (by rw [fis_len]; unfold maxLenN; omega) fun u1 S3 H3 => ?_
      refine wp_ret ?_
      show wp EM _ _ _
      refine wp_ret ?_
      show wp EM _ _ _
      unfold Try.a95x2
      refine wp_add64 (by omega) (by omega) (wp_ret (.inl ⟨rfl, L.length - (i + 1), by omega, i + 1, u1, rfl, by omega, rfl, ?_⟩))
      rw [rmv_take hlt, if_neg (by omega), fis_app]; exact H3
    · refine wp_bind (wp_ite_f (wp_ret ?_))
      show wp EM _ _ _
      refine wp_ret ?_
      show wp EM _ _ _
      unfold Try.a95x2
      refine wp_add64 (by omega) (by omega) (wp_ret (.inl ⟨rfl, L.length - (i + 1), by omega, i + 1, u, rfl, by omega, rfl, ?_⟩))
      rw [rmv_take hlt, if_pos (by omega)]; exact H
  · have : i = L.length := by omega
    subst this
    repeat (first|refine zA ?_|refine zB rfl ?_|refine zC ?_|refine zD ?_|refine zE rfl ?_|refine zF ?_|refine zG ?_|refine zH ?_|refine zI ?_|refine zJ ?_|refine zK ?_|refine zL rfl ?_|refine zN rfl ?_)
    refine wp_ret (.inr ⟨by simp, ?_⟩)
    show wp EM _ _ _
    rw [List.take_length] at H
    exact wp_ret ⟨rfl, H⟩
/-- what is laid out already, and whether the new one is among it -/
def WithIs (f : Fi) (L : List Fi) (i : Nat) (d : Bool) (out : List Fi) : Prop := out.length ≤ i + 1 ∧ ((d = true ∧ ins f L = out ++ L.drop i) ∨ (d = false ∧ out.length ≤ i ∧ ins f L = out ++ ins f (L.drop i)))
theorem rwith_ok {n : Nat} {f : Fi} {L : List Fi} (hm : own[n]? = some (.sl v 2 (fis L))) (hl : L.length < 1000) (H : Cx B0 W S own ro) :
    wpC EM (.fn (.func 129) [] []) [v, .agg f.cs] S fun u S' => Cx B0 W S' (.sl u 2 (fis (ins f L)) :: own) ro := by
  refine wpC_fn (b := Try.a129) rfl rfl ?_
  unfold Try.a129
  refine wp_box H rfl fun p S1 H => ?_
  have H : Cx B0 W S1 own (.pt p 0 f.cs :: ro) := H
  refine wp_bind (wp_loop (wpL_inv (fun m vs S1 => ∃ (i : Nat) (d : Bool) (u : AV) (out : List Fi), vs = [I (i : Int), B d, u] ∧ i ≤ L.length ∧ m = L.length - i ∧ WithIs f L i d out ∧ Cx B0 W S1 (.sl u 2 (fis out) :: own) (.pt p 0 f.cs :: ro)) ?_ L.length ⟨0, false, Ns, [], rfl, by omega, by omega, ⟨by simp, .inr ⟨rfl, by simp, rfl⟩⟩, H.addNil 2⟩))
  clear H
  rintro m vs S1 ⟨i, d, u, out, rfl, hi, rfl, hW, H⟩
  have hm1 : (Own.sl u 2 (fis out) :: own)[n + 1]? = some (.sl v 2 (fis L)) := hm
  have hs := ownSl_ok (H.oh _ (List.mem_of_getElem? hm1))
  have hol := hW.1
  unfold Try.a129x9
  refine wp_lenE hs ?_
  rw [fis_len]
  refine wp_lss (fun hlt => ?_) (fun hge => ?_)
  · have hlt : i < L.length := by omega
    repeat (first|refine zA ?_|refine zB rfl ?_|refine zC ?_|refine zD ?_|refine zE rfl ?_|refine zF ?_|refine zG ?_|refine zH ?_|refine zI ?_|refine zJ ?_|refine zK ?_|refine zL rfl ?_|refine zN rfl ?_)
    refine wp_bind (wp_mono (Q := fun t vs S' => t = .normal ∧ ∃ (d' : Bool) (u' : AV) (out' : List Fi), vs = [B d', u'] ∧ WithIs f L (i + 1) d' out' ∧ Cx B0 W S' (.sl u' 2 (fis out') :: own) (.pt p 0 f.cs :: ro)) ?_ ?_)
    · have hdr : L.drop i = L[i] :: L.drop (i + 1) := List.drop_eq_getElem_cons hlt
      -- the element itself, behind the new one, or not
      have tail : ∀ (S2 : AH) (d' : Bool) (u' : AV) (out' : List Fi), Cx B0 W S2 (.sl u' 2 (fis out') :: own) (.pt p 0 f.cs :: ro) → WithIs f L (i + 1) d' (out' ++ [L[i]]) →
          wp EM (.op (.saddr 2 v (I (i : Int))) fun v36 => .op (.load 2 true v36) fun v37 => .op (.bslice 2 1 [(I 0), (I 0)] [(0, 2, v37)]) fun v38 => Try.a129x1 [B d', u'] v38) S2
            fun t vs S' => t = .normal ∧ ∃ (d' : Bool) (u' : AV) (out' : List Fi), vs = [B d', u'] ∧ WithIs f L (i + 1) d' out' ∧ Cx B0 W S' (.sl u' 2 (fis out') :: own) (.pt p 0 f.cs :: ro) := by
        intro S2 d' u' out' H2 hW2
        have hl2 := hW2.1
        simp only [List.length_append, List.length_singleton] at hl2
        have hm2 : (Own.sl u' 2 (fis out') :: own)[n + 1]? = some (.sl v 2 (fis L)) := hm
        have hs2 := ownSl_ok (H2.oh _ (List.mem_of_getElem? hm2))
        refine wp_elem (i := i) hs2 (fis_get hlt) fun q2 qo2 hp2 => ?_
        refine wp_loadFn (j := 0) (n := 2) hp2 (by show 0 + 2 ≤ 2; omega) ?_
        rw [agg2]
        unfold Try.a129x1
        refine wp_push (L := fis out') (x := .agg L[i].cs) H2 0 rfl rfl rfl rfl (by rw [fis_len]; unfold maxBytes; omega) (by rw [fis_len]; unfold maxLenN; omega) fun u1 S3 H3 => ?_
        refine wp_ret ⟨rfl, d', u1, out' ++ [L[i]], rfl, hW2, ?_⟩
        rw [fis_app]; exact H3
      have fin : ∀ c : Bool, (c = true ↔ d = false ∧ f.lt L[i]) → wp EM (Try.a129x2 [v, .agg f.cs] (.ptr p 0) [I (i : Int), B d, u] (B c)) S1
            fun t vs S' => t = .normal ∧ ∃ (d' : Bool) (u' : AV) (out' : List Fi), vs = [B d', u'] ∧ WithIs f L (i + 1) d' out' ∧ Cx B0 W S' (.sl u' 2 (fis out') :: own) (.pt p 0 f.cs :: ro) := by
        intro c hc
        unfold Try.a129x2
        cases c with
        | true =>
          obtain ⟨hd, hflt⟩ := hc.1 rfl
          subst hd
          have hW' := hW.2.resolve_left (by rintro ⟨h, _⟩; cases h)
          refine wp_bind (wp_ite_t ?_)
          refine wp_loada (n := 2) H (id := p) (off := 0) (cs := f.cs) (by repeat (first | exact List.Mem.head _ | apply List.Mem.tail)) (Nat.le_refl _) ?_
          unfold Try.a129x0
          refine wp_push (L := fis out) (x := .agg f.cs) H 0 rfl rfl rfl rfl (by rw [fis_len]; unfold maxBytes; omega) (by rw [fis_len]; unfold maxLenN; omega) fun u1 S3 H3 => ?_
          refine wp_ret ?_
          show wp EM _ _ _
          refine tail S3 true u1 (out ++ [f]) (by rw [fis_app]; exact H3) ⟨by simp; omega, .inl ⟨rfl, ?_⟩⟩
          rw [hW'.2.2, hdr]
          unfold ins
          rw [if_pos hflt]; simp
        | false =>
          refine wp_bind (wp_ite_f (wp_ret ?_))
          show wp EM _ _ _
          refine tail S1 d u out H ?_
          rcases hW.2 with ⟨hd, he⟩ | ⟨hd, hle, he⟩
          · refine ⟨?_, .inl ⟨hd, by rw [he, hdr]; simp⟩⟩
            have := congrArg List.length he
            rw [ins_length, List.length_append, List.length_drop] at this
            simp; omega
          · refine ⟨by simp; omega, .inr ⟨hd, by simp; omega, ?_⟩⟩
            have hn : ¬ f.lt L[i] := fun h => by have := hc.2 ⟨hd, h⟩; cases this
            rw [he, hdr]
            conv => lhs; unfold ins
            rw [if_neg hn]; simp
      unfold Try.a129x7
      cases d with
      | true =>
        refine wp_op (v := B false) rfl ?_
        repeat (first|refine zA ?_|refine zB rfl ?_|refine zC ?_|refine zD ?_|refine zE rfl ?_|refine zF ?_|refine zG ?_|refine zH ?_|refine zI ?_|refine zJ ?_|refine zK ?_|refine zL rfl ?_|refine zN rfl ?_)
        try unfold Try.a129x6
        repeat (first|refine zA ?_|refine zB rfl ?_|refine zC ?_|refine zD ?_|refine zE rfl ?_|refine zF ?_|refine zG ?_|refine zH ?_|refine zI ?_|refine zJ ?_|refine zK ?_|refine zL rfl ?_|refine zN rfl ?_)
        try unfold Try.a129x5
        repeat (first|refine zA ?_|refine zB rfl ?_|refine zC ?_|refine zD ?_|refine zE rfl ?_|refine zF ?_|refine zG ?_|refine zH ?_|refine zI ?_|refine zJ ?_|refine zK ?_|refine zL rfl ?_|refine zN rfl ?_)
        try unfold Try.a129x4
        repeat (first|refine zA ?_|refine zB rfl ?_|refine zC ?_|refine zD ?_|refine zE rfl ?_|refine zF ?_|refine zG ?_|refine zH ?_|refine zI ?_|refine zJ ?_|refine zK ?_|refine zL rfl ?_|refine zN rfl ?_)
        try unfold Try.a129x3
        repeat (first|refine zA ?_|refine zB rfl ?_|refine zC ?_|refine zD ?_|refine zE rfl ?_|refine zF ?_|refine zG ?_|refine zH ?_|refine zI ?_|refine zJ ?_|refine zK ?_|refine zL rfl ?_|refine zN rfl ?_)
        exact fin false (by simp)
      | false =>
        refine wp_op (v := B true) rfl ?_
        repeat (first|refine zA ?_|refine zB rfl ?_|refine zC ?_|refine zD ?_|refine zE rfl ?_|refine zF ?_|refine zG ?_|refine zH ?_|refine zI ?_|refine zJ ?_|refine zK ?_|refine zL rfl ?_|refine zN rfl ?_)
        refine wp_elem (i := i) hs (fis_get hlt) fun q qo hp => ?_
        repeat (first|refine zA ?_|refine zB rfl ?_|refine zC ?_|refine zD ?_|refine zE rfl ?_|refine zF ?_|refine zG ?_|refine zH ?_|refine zI ?_|refine zJ ?_|refine zK ?_|refine zL rfl ?_|refine zN rfl ?_)
        refine wp_loadF (j := 1) hp rfl ?_
        try unfold Try.a129x6
        repeat (first|refine zA ?_|refine zB rfl ?_|refine zC ?_|refine zD ?_|refine zE rfl ?_|refine zF ?_|refine zG ?_|refine zH ?_|refine zI ?_|refine zJ ?_|refine zK ?_|refine zL rfl ?_|refine zN rfl ?_)
        refine wp_load1 (id := p) (j := 1) H (cs := f.cs) (by repeat (first | exact List.Mem.head _ | apply List.Mem.tail)) rfl ?_
        repeat (first|refine zA ?_|refine zB rfl ?_|refine zC ?_|refine zD ?_|refine zE rfl ?_|refine zF ?_|refine zG ?_|refine zH ?_|refine zI ?_|refine zJ ?_|refine zK ?_|refine zL rfl ?_|refine zN rfl ?_)
        refine wp_gtr (fun hgt => ?_) (fun hle => ?_)
        · repeat (first|refine zA ?_|refine zB rfl ?_|refine zC ?_|refine zD ?_|refine zE rfl ?_|refine zF ?_|refine zG ?_|refine zH ?_|refine zI ?_|refine zJ ?_|refine zK ?_|refine zL rfl ?_|refine zN rfl ?_)
          try unfold Try.a129x5
          repeat (first|refine zA ?_|refine zB rfl ?_|refine zC ?_|refine zD ?_|refine zE rfl ?_|refine zF ?_|refine zG ?_|refine zH ?_|refine zI ?_|refine zJ ?_|refine zK ?_|refine zL rfl ?_|refine zN rfl ?_)
          try unfold Try.a129x4
          repeat (first|refine zA ?_|refine zB rfl ?_|refine zC ?_|refine zD ?_|refine zE rfl ?_|refine zF ?_|refine zG ?_|refine zH ?_|refine zI ?_|refine zJ ?_|refine zK ?_|refine zL rfl ?_|refine zN rfl ?_)
          try unfold Try.a129x3
          repeat (first|refine zA ?_|refine zB rfl ?_|refine zC ?_|refine zD ?_|refine zE rfl ?_|refine zF ?_|refine zG ?_|refine zH ?_|refine zI ?_|refine zJ ?_|refine zK ?_|refine zL rfl ?_|refine zN rfl ?_)
          exact fin true ⟨fun _ => ⟨rfl, .inl (by omega)⟩, fun _ => rfl⟩
        · repeat (first|refine zA ?_|refine zB rfl ?_|refine zC ?_|refine zD ?_|refine zE rfl ?_|refine zF ?_|refine zG ?_|refine zH ?_|refine zI ?_|refine zJ ?_|refine zK ?_|refine zL rfl ?_|refine zN rfl ?_)
          try unfold Try.a129x5
          repeat (first|refine zA ?_|refine zB rfl ?_|refine zC ?_|refine zD ?_|refine zE rfl ?_|refine zF ?_|refine zG ?_|refine zH ?_|refine zI ?_|refine zJ ?_|refine zK ?_|refine zL rfl ?_|refine zN rfl ?_)
          refine wp_elem (i := i) hs (fis_get hlt) fun q qo hp => ?_
          repeat (first|refine zA ?_|refine zB rfl ?_|refine zC ?_|refine zD ?_|refine zE rfl ?_|refine zF ?_|refine zG ?_|refine zH ?_|refine zI ?_|refine zJ ?_|refine zK ?_|refine zL rfl ?_|refine zN rfl ?_)
          refine wp_loadF (j := 1) hp rfl ?_
          repeat (first|refine zA ?_|refine zB rfl ?_|refine zC ?_|refine zD ?_|refine zE rfl ?_|refine zF ?_|refine zG ?_|refine zH ?_|refine zI ?_|refine zJ ?_|refine zK ?_|refine zL rfl ?_|refine zN rfl ?_)
          refine wp_load1 (id := p) (j := 1) H (cs := f.cs) (by repeat (first | exact List.Mem.head _ | apply List.Mem.tail)) rfl ?_
          repeat (first|refine zA ?_|refine zB rfl ?_|refine zC ?_|refine zD ?_|refine zE rfl ?_|refine zF ?_|refine zG ?_|refine zH ?_|refine zI ?_|refine zJ ?_|refine zK ?_|refine zL rfl ?_|refine zN rfl ?_)
          refine wp_eql (fun heq => ?_) (fun hne => ?_)
          · try unfold Try.a129x4
            repeat (first|refine zA ?_|refine zB rfl ?_|refine zC ?_|refine zD ?_|refine zE rfl ?_|refine zF ?_|refine zG ?_|refine zH ?_|refine zI ?_|refine zJ ?_|refine zK ?_|refine zL rfl ?_|refine zN rfl ?_)
            refine wp_elem (i := i) hs (fis_get hlt) fun q qo hp => ?_
            repeat (first|refine zA ?_|refine zB rfl ?_|refine zC ?_|refine zD ?_|refine zE rfl ?_|refine zF ?_|refine zG ?_|refine zH ?_|refine zI ?_|refine zJ ?_|refine zK ?_|refine zL rfl ?_|refine zN rfl ?_)
            refine wp_loadF (j := 0) hp rfl ?_
            try unfold Try.a129x3
            repeat (first|refine zA ?_|refine zB rfl ?_|refine zC ?_|refine zD ?_|refine zE rfl ?_|refine zF ?_|refine zG ?_|refine zH ?_|refine zI ?_|refine zJ ?_|refine zK ?_|refine zL rfl ?_|refine zN rfl ?_)
            refine wp_load1 (id := p) (j := 0) H (cs := f.cs) (by repeat (first | exact List.Mem.head _ | apply List.Mem.tail)) rfl ?_
            repeat (first|refine zA ?_|refine zB rfl ?_|refine zC ?_|refine zD ?_|refine zE rfl ?_|refine zF ?_|refine zG ?_|refine zH ?_|refine zI ?_|refine zJ ?_|refine zK ?_|refine zL rfl ?_|refine zN rfl ?_)
            refine wp_gtr (fun hgt2 => ?_) (fun hle2 => ?_)
            · repeat (first|refine zA ?_|refine zB rfl ?_|refine zC ?_|refine zD ?_|refine zE rfl ?_|refine zF ?_|refine zG ?_|refine zH ?_|refine zI ?_|refine zJ ?_|refine zK ?_|refine zL rfl ?_|refine zN rfl ?_)
              exact fin true ⟨fun _ => ⟨rfl, .inr ⟨by omega, by omega⟩⟩, fun _ => rfl⟩
            · repeat (first|refine zA ?_|refine zB rfl ?_|refine zC ?_|refine zD ?_|refine zE rfl ?_|refine zF ?_|refine zG ?_|refine zH ?_|refine zI ?_|refine zJ ?_|refine zK ?_|refine zL rfl ?_|refine zN rfl ?_)
              refine fin false ⟨(fun h => by cases h), fun h => ?_⟩
              rcases h.2 with h | h <;> omega
          · try unfold Try.a129x4
            repeat (first|refine zA ?_|refine zB rfl ?_|refine zC ?_|refine zD ?_|refine zE rfl ?_|refine zF ?_|refine zG ?_|refine zH ?_|refine zI ?_|refine zJ ?_|refine zK ?_|refine zL rfl ?_|refine zN rfl ?_)
            try unfold Try.a129x3
            repeat (first|refine zA ?_|refine zB rfl ?_|refine zC ?_|refine zD ?_|refine zE rfl ?_|refine zF ?_|refine zG ?_|refine zH ?_|refine zI ?_|refine zJ ?_|refine zK ?_|refine zL rfl ?_|refine zN rfl ?_)
            refine fin false ⟨(fun h => by cases h), fun h => ?_⟩
            rcases h.2 with h | h <;> omega
    · rintro t vs S2 ⟨rfl, d', u', out', rfl, hW2, H2⟩
      show wp EM _ _ _
      unfold Try.a129x8
      exact wp_add64 (by omega) (by omega) (wp_ret (.inl ⟨rfl, L.length - (i + 1), by omega, i + 1, d', u', out', rfl, by omega, rfl, hW2, H2⟩))
  · have : i = L.length := by omega
    subst this
    repeat (first|refine zA ?_|refine zB rfl ?_|refine zC ?_|refine zD ?_|refine zE rfl ?_|refine zF ?_|refine zG ?_|refine zH ?_|refine zI ?_|refine zJ ?_|refine zK ?_|refine zL rfl ?_|refine zN rfl ?_)
    refine wp_ret (.inr ⟨by simp, ?_⟩)
    show wp EM _ _ _
    unfold WithIs at hW
    rw [List.drop_length] at hW
    rcases hW.2 with ⟨rfl, he⟩ | ⟨rfl, hle, he⟩
    · refine wp_op (v := B false) rfl ?_
      unfold Try.a129x10
      refine wp_bind (wp_ite_f (wp_ret ?_))
      show wp EM _ _ _
      rw [List.append_nil] at he
      rw [he]
      exact wp_ret ⟨rfl, H.tl⟩
    · refine wp_op (v := B true) rfl ?_
      unfold Try.a129x10
      refine wp_bind (wp_ite_t ?_)
      refine wp_loada (n := 2) H (id := p) (off := 0) (cs := f.cs) (by repeat (first | exact List.Mem.head _ | apply List.Mem.tail)) (Nat.le_refl _) ?_
      refine wp_push (L := fis out) (x := .agg f.cs) H 0 rfl rfl rfl rfl (by rw [fis_len]; unfold maxBytes; omega) (by rw [fis_len]; unfold maxLenN; omega) fun u1 S3 H3 => ?_
      refine wp_ret ?_
      show wp EM _ _ _
      have e : ins f L = out ++ [f] := he
      rw [e, fis_app]
      exact wp_ret ⟨rfl, H3.tl⟩
end
end Go.Abs
namespace Go.Abs
open Go.Proofs
set_option maxRecDepth 100000
set_option linter.unusedVariables false
section
variable {B0 S : AH} {W : List Nat} {own E R : List Own} {ro : List Fct} {Q : Post} {k : AV → AC} {r : Nat} {x : Wl} {blk : List Own} {v : AV}
theorem slW_odd1 {S : AH} {v : AV} {es : Nat} {L : List (List AV)} (h : slOk S v es L) : odd v = false ∧ v.cells = [v] := slOk_odd1 h
/-- a list of one's own becomes the wheel's -/
theorem wp_setL {u : AV} {L' : List Fi} (H : Cx B0 W S (.sl u 2 (fis L') :: (E ++ (rOwn r x v ++ R))) ro) (h : ∀ S1, Cx B0 W S1 (E ++ (rOwn r ⟨x.now, L'⟩ u ++ R)) ro → wp EM (k uv) S1 Q) :
    wp EM (.op (.store 1 (.ptr r 1) u) k) S Q := by
  have hs := ownSl_ok (H.oh _ (List.Mem.head _))
  refine wp_set1 (c := [I (x.now : Int), v]) (j := 1) (v := u) H ((Own.sl u 2 (fis L') :: E).length + 0) (rO_row (E := .sl u 2 (fis L') :: E)) (by simp) (slOk_odd1 hs).1 (slOk_odd1 hs).2 fun S1 H1 => h S1 ?_
  have e : (Own.sl u 2 (fis L') :: (E ++ (rOwn r x v ++ R))).set ((Own.sl u 2 (fis L') :: E).length + 0) (.obj r (.row ([I (x.now : Int), v].set 1 u))) = .sl u 2 (fis L') :: (E ++ (.obj r (.row [I (x.now : Int), u]) :: .sl v 2 (fis x.L) :: R)) := by
    have := app_set (E := .sl u 2 (fis L') :: E) (own := rOwn r x v ++ R) (n := 0) (x := .obj r (.row [I (x.now : Int), u]))
    exact this
  rw [e] at H1
  exact H1.swapR
theorem rput_ok {id t : Nat} (h : RRep r x blk) (H : Cx B0 W S (E ++ (blk ++ R)) ro) (h1 : x.now ≤ t) (h2 : t ≤ 1099511627776) (h3 : id < 256) :
    wpC EM (.fn (.func 94) [] []) [.ptr r 0, I (id : Int), I (t : Int)] S fun _ S' => ∃ blk', RRep r (x.put ⟨id, t⟩) blk' ∧ Cx B0 W S' (E ++ (blk' ++ R)) ro := by
  refine wpC_fn (b := Try.a94) rfl rfl ?_
  unfold Try.a94
  obtain ⟨ho, v, rfl⟩ := h
  have hlen := ho.len
  repeat (first|refine zA ?_|refine zB rfl ?_|refine zC ?_|refine zD ?_|refine zE rfl ?_|refine zF ?_|refine zG ?_|refine zH ?_|refine zI ?_|refine zJ ?_|refine zK ?_|refine zL rfl ?_|refine zN rfl ?_)
  refine wp_row (j := 1) H _ rO_row rfl ?_
  refine wp_call (wpC_mono (rwithout_ok (n := E.length + 1) (id := id) rO_sl (by omega) H) fun u S1 H1 => ?_)
  have hlr : (rmv id x.L).length ≤ x.L.length := List.length_filter_le ..
  refine wp_op (v := .agg (Fi.mk id t).cs) rfl ?_
  refine wp_call (wpC_mono (rwith_ok (n := 0) (f := ⟨id, t⟩) (L := rmv id x.L) rfl (by omega) H1) fun u2 S2 H2 => ?_)
  try unfold Try.a94x0
  have H3 := H2.dropAt 1
  repeat (first|refine zA ?_|refine zB rfl ?_|refine zC ?_|refine zD ?_|refine zE rfl ?_|refine zF ?_|refine zG ?_|refine zH ?_|refine zI ?_|refine zJ ?_|refine zK ?_|refine zL rfl ?_|refine zN rfl ?_)
  refine wp_setL (L' := ins ⟨id, t⟩ (rmv id x.L)) H3 fun S3 H4 => ?_
  exact wp_ret ⟨rfl, _, ⟨ho.put (f := ⟨id, t⟩) h1 h2 h3, u2, rfl⟩, H4⟩
theorem rset_ok {id at' : Int} (h : RRep r x blk) (H : Cx B0 W S (E ++ (blk ++ R)) ro) :
    wpC EM (.fn (.func 46) [] []) [.ptr r 0, I id, I at'] S fun u S' => u = I (setE x id at') ∧ ∃ blk', RRep r (setX x id at') blk' ∧ Cx B0 W S' (E ++ (blk' ++ R)) ro := by
  refine wpC_fn (b := Try.a46) rfl rfl ?_
  unfold Try.a46
  refine wp_bind ?_
  have bad : ∀ (S : AH) (e : Int), e ≠ 0 → setE x id at' = e → Cx B0 W S (E ++ (blk ++ R)) ro → I e = I (setE x id at') ∧ ∃ blk', RRep r (setX x id at') blk' ∧ Cx B0 W S (E ++ (blk' ++ R)) ro := fun S e h0 he H => by
    refine ⟨by rw [he], blk, ?_, H⟩
    unfold setX
    rw [he, if_neg h0]; exact h
  have good : ∀ S, setE x id at' = 0 → Cx B0 W S (E ++ (blk ++ R)) ro → wp EM (.call (.fn (.func 94) [] []) [.ptr r 0, I id, I at'] fun v4 => .ret .ret [(I 0)]) S fun t vs S' => t = .ret ∧ oneOf vs = I (setE x id at') ∧ ∃ blk', RRep r (setX x id at') blk' ∧ Cx B0 W S' (E ++ (blk' ++ R)) ro := by
    intro S he H
    have hc : ¬ (id < 0 ∨ 256 ≤ id ∨ at' < 0 ∨ 1099511627776 < at') ∧ ¬ at' < x.now := by
      unfold setE at he
      split at he
      · cases he
      · split at he
        · cases he
        · constructor <;> assumption
    obtain ⟨i, rfl⟩ : ∃ i : Nat, id = (i : Int) := ⟨id.toNat, by omega⟩
    obtain ⟨t, rfl⟩ : ∃ t : Nat, at' = (t : Int) := ⟨at'.toNat, by omega⟩
    refine wp_call (wpC_mono (rput_ok (id := i) (t := t) h H (by omega) (by omega) (by omega)) fun v S1 ⟨blk1, h1, H1⟩ => ?_)
    refine wp_ret ⟨rfl, by rw [he]; rfl, blk1, ?_, H1⟩
    unfold setX
    rw [if_pos he]
    exact h1
  refine wp_lss (fun h1 => ?_) (fun h1 => ?_)
  · repeat (first|refine zA ?_|refine zB rfl ?_|refine zC ?_|refine zD ?_|refine zE rfl ?_|refine zF ?_|refine zG ?_|refine zH ?_|refine zI ?_|refine zJ ?_|refine zK ?_|refine zL rfl ?_|refine zN rfl ?_)
    try unfold Try.a46x1
    repeat (first|refine zA ?_|refine zB rfl ?_|refine zC ?_|refine zD ?_|refine zE rfl ?_|refine zF ?_|refine zG ?_|refine zH ?_|refine zI ?_|refine zJ ?_|refine zK ?_|refine zL rfl ?_|refine zN rfl ?_)
    refine wp_ret ⟨rfl, bad _ 3 (by omega) (by unfold setE; rw [if_pos (.inl h1)]) H⟩
  · repeat (first|refine zA ?_|refine zB rfl ?_|refine zC ?_|refine zD ?_|refine zE rfl ?_|refine zF ?_|refine zG ?_|refine zH ?_|refine zI ?_|refine zJ ?_|refine zK ?_|refine zL rfl ?_|refine zN rfl ?_)
    refine wp_geq (fun h2 => ?_) (fun h2 => ?_)
    · try unfold Try.a46x1
      repeat (first|refine zA ?_|refine zB rfl ?_|refine zC ?_|refine zD ?_|refine zE rfl ?_|refine zF ?_|refine zG ?_|refine zH ?_|refine zI ?_|refine zJ ?_|refine zK ?_|refine zL rfl ?_|refine zN rfl ?_)
      refine wp_ret ⟨rfl, bad _ 3 (by omega) (by unfold setE; rw [if_pos (.inr (.inl h2))]) H⟩
    · try unfold Try.a46x1
      repeat (first|refine zA ?_|refine zB rfl ?_|refine zC ?_|refine zD ?_|refine zE rfl ?_|refine zF ?_|refine zG ?_|refine zH ?_|refine zI ?_|refine zJ ?_|refine zK ?_|refine zL rfl ?_|refine zN rfl ?_)
      refine wp_callV H rtime_ok fun S2 H => ?_
      repeat (first|refine zA ?_|refine zB rfl ?_|refine zC ?_|refine zD ?_|refine zE rfl ?_|refine zF ?_|refine zG ?_|refine zH ?_|refine zI ?_|refine zJ ?_|refine zK ?_|refine zL rfl ?_|refine zN rfl ?_)
      by_cases ht : 0 ≤ at' ∧ at' ≤ 1099511627776
      · rw [decide_eq_true ht]
        refine wp_op (v := B false) rfl ?_
        repeat (first|refine zA ?_|refine zB rfl ?_|refine zC ?_|refine zD ?_|refine zE rfl ?_|refine zF ?_|refine zG ?_|refine zH ?_|refine zI ?_|refine zJ ?_|refine zK ?_|refine zL rfl ?_|refine zN rfl ?_)
        try unfold Try.a46x0
        have h0 := h
        obtain ⟨ho, v, rfl⟩ := h
        repeat (first|refine zA ?_|refine zB rfl ?_|refine zC ?_|refine zD ?_|refine zE rfl ?_|refine zF ?_|refine zG ?_|refine zH ?_|refine zI ?_|refine zJ ?_|refine zK ?_|refine zL rfl ?_|refine zN rfl ?_)
        refine wp_row (j := 0) H _ rO_row rfl ?_
        refine wp_lss (fun h3 => ?_) (fun h3 => ?_)
        · repeat (first|refine zA ?_|refine zB rfl ?_|refine zC ?_|refine zD ?_|refine zE rfl ?_|refine zF ?_|refine zG ?_|refine zH ?_|refine zI ?_|refine zJ ?_|refine zK ?_|refine zL rfl ?_|refine zN rfl ?_)
          refine wp_ret ⟨rfl, bad _ 13 (by omega) (by unfold setE; rw [if_neg (by omega), if_pos h3]) H⟩
        · repeat (first|refine zA ?_|refine zB rfl ?_|refine zC ?_|refine zD ?_|refine zE rfl ?_|refine zF ?_|refine zG ?_|refine zH ?_|refine zI ?_|refine zJ ?_|refine zK ?_|refine zL rfl ?_|refine zN rfl ?_)
          refine wp_ret ?_
          exact good _ (by unfold setE; rw [if_neg (by omega), if_neg (by omega)]) H
      · rw [decide_eq_false ht]
        refine wp_op (v := B true) rfl ?_
        repeat (first|refine zA ?_|refine zB rfl ?_|refine zC ?_|refine zD ?_|refine zE rfl ?_|refine zF ?_|refine zG ?_|refine zH ?_|refine zI ?_|refine zJ ?_|refine zK ?_|refine zL rfl ?_|refine zN rfl ?_)
        refine wp_ret ⟨rfl, bad _ 3 (by omega) (by unfold setE; rw [if_pos (by omega)]) H⟩
theorem rat_ok (h : RRep r x blk) (H : Cx B0 W S (E ++ (blk ++ R)) ro) {id : Int} : wpC EM (.fn (.func 58) [] []) [.ptr r 0, I id] S fun u S' => u = atR x id ∧ Cx B0 W S' (E ++ (blk ++ R)) ro := by
  refine wpC_fn (b := Try.a58) rfl rfl ?_
  unfold Try.a58
  obtain ⟨ho, v, rfl⟩ := h
  have hlen := ho.len
  refine wp_bind (wp_loop (wpL_inv (fun m vs S1 => ∃ (i : Nat) (a : AV), vs = [I (i : Int), B false, a] ∧ i ≤ x.L.length ∧ m = x.L.length - i ∧ fnd x.L id = fnd (x.L.drop i) id ∧ Cx B0 W S1 (E ++ (rOwn r x v ++ R)) ro) ?_ x.L.length ⟨0, I 0, rfl, by omega, by omega, rfl, H⟩))
  clear H
  rintro m vs S1 ⟨i, a, rfl, hi, rfl, hf, H⟩
  try unfold Try.a58x3
  repeat (first|refine zA ?_|refine zB rfl ?_|refine zC ?_|refine zD ?_|refine zE rfl ?_|refine zF ?_|refine zG ?_|refine zH ?_|refine zI ?_|refine zJ ?_|refine zK ?_|refine zL rfl ?_|refine zN rfl ?_)
  refine wp_row (j := 1) H _ rO_row rfl ?_
  have hs := H.rsl
  refine wp_lenE hs ?_
  rw [fis_len]
  refine wp_lss (fun hlt => ?_) (fun hge => ?_)
  · have hlt : i < x.L.length := by omega
    have hdr : x.L.drop i = x.L[i] :: x.L.drop (i + 1) := List.drop_eq_getElem_cons hlt
    rw [hdr, fnd_cons] at hf
    repeat (first|refine zA ?_|refine zB rfl ?_|refine zC ?_|refine zD ?_|refine zE rfl ?_|refine zF ?_|refine zG ?_|refine zH ?_|refine zI ?_|refine zJ ?_|refine zK ?_|refine zL rfl ?_|refine zN rfl ?_)
    try unfold Try.a58x2
    refine wp_bind ?_
    repeat (first|refine zA ?_|refine zB rfl ?_|refine zC ?_|refine zD ?_|refine zE rfl ?_|refine zF ?_|refine zG ?_|refine zH ?_|refine zI ?_|refine zJ ?_|refine zK ?_|refine zL rfl ?_|refine zN rfl ?_)
    refine wp_row (j := 1) H _ rO_row rfl ?_
    try unfold Try.a58x1
    refine wp_elem (i := i) hs (fis_get hlt) fun q qo hp => ?_
    repeat (first|refine zA ?_|refine zB rfl ?_|refine zC ?_|refine zD ?_|refine zE rfl ?_|refine zF ?_|refine zG ?_|refine zH ?_|refine zI ?_|refine zJ ?_|refine zK ?_|refine zL rfl ?_|refine zN rfl ?_)
    refine wp_loadF (j := 0) hp rfl ?_
    refine wp_eql (fun he => ?_) (fun hne => ?_)
    · repeat (first|refine zA ?_|refine zB rfl ?_|refine zC ?_|refine zD ?_|refine zE rfl ?_|refine zF ?_|refine zG ?_|refine zH ?_|refine zI ?_|refine zJ ?_|refine zK ?_|refine zL rfl ?_|refine zN rfl ?_)
      try unfold Try.a58x0
      repeat (first|refine zA ?_|refine zB rfl ?_|refine zC ?_|refine zD ?_|refine zE rfl ?_|refine zF ?_|refine zG ?_|refine zH ?_|refine zI ?_|refine zJ ?_|refine zK ?_|refine zL rfl ?_|refine zN rfl ?_)
      refine wp_row (j := 1) H _ rO_row rfl ?_
      refine wp_elem (i := i) hs (fis_get hlt) fun q2 qo2 hp2 => ?_
      repeat (first|refine zA ?_|refine zB rfl ?_|refine zC ?_|refine zD ?_|refine zE rfl ?_|refine zF ?_|refine zG ?_|refine zH ?_|refine zI ?_|refine zJ ?_|refine zK ?_|refine zL rfl ?_|refine zN rfl ?_)
      refine wp_loadF (j := 1) hp2 rfl ?_
      rw [if_pos he] at hf
      refine wp_ret (.inr ⟨by simp, rfl, ?_, H⟩)
      unfold atR
      rw [hf]; rfl
    · repeat (first|refine zA ?_|refine zB rfl ?_|refine zC ?_|refine zD ?_|refine zE rfl ?_|refine zF ?_|refine zG ?_|refine zH ?_|refine zI ?_|refine zJ ?_|refine zK ?_|refine zL rfl ?_|refine zN rfl ?_)
      rw [if_neg hne] at hf
      refine wp_ret ?_
      show wp EM _ _ _
      exact wp_add64 (by omega) (by omega) (wp_ret (.inl ⟨rfl, x.L.length - (i + 1), by omega, i + 1, a, rfl, by omega, rfl, hf, H⟩))
  · have : i = x.L.length := by omega
    subst this
    repeat (first|refine zA ?_|refine zB rfl ?_|refine zC ?_|refine zD ?_|refine zE rfl ?_|refine zF ?_|refine zG ?_|refine zH ?_|refine zI ?_|refine zJ ?_|refine zK ?_|refine zL rfl ?_|refine zN rfl ?_)
    refine wp_ret (.inr ⟨by simp, ?_⟩)
    show wp EM _ _ _
    rw [List.drop_length] at hf
    refine wp_ret ⟨rfl, ?_, H⟩
    unfold atR
    rw [hf]; rfl
theorem rdrop_ok (h : RRep r x blk) (H : Cx B0 W S (E ++ (blk ++ R)) ro) {id : Int} :
    wpC EM (.fn (.func 48) [] []) [.ptr r 0, I id] S fun u S' => u = I (dropE x id) ∧ ∃ blk', RRep r (dropX x id) blk' ∧ Cx B0 W S' (E ++ (blk' ++ R)) ro := by
  refine wpC_fn (b := Try.a48) rfl rfl ?_
  unfold Try.a48
  refine wp_call (wpC_mono (rat_ok h H) fun u S1 ⟨hu, H⟩ => ?_)
  subst hu
  have h0 := h
  obtain ⟨ho, v, rfl⟩ := h
  have hlen := ho.len
  unfold atR dropE dropX
  cases hq : fnd x.L id with
  | none =>
    repeat (first|refine zA ?_|refine zB rfl ?_|refine zC ?_|refine zD ?_|refine zE rfl ?_|refine zF ?_|refine zG ?_|refine zH ?_|refine zI ?_|refine zJ ?_|refine zK ?_|refine zL rfl ?_|refine zN rfl ?_)
    refine wp_op (v := B true) rfl ?_
    repeat (first|refine zA ?_|refine zB rfl ?_|refine zC ?_|refine zD ?_|refine zE rfl ?_|refine zF ?_|refine zG ?_|refine zH ?_|refine zI ?_|refine zJ ?_|refine zK ?_|refine zL rfl ?_|refine zN rfl ?_)
    exact wp_ret ⟨rfl, rfl, _, h0, H⟩
  | some f =>
    have e := (fnd_mem hq).2
    subst e
    repeat (first|refine zA ?_|refine zB rfl ?_|refine zC ?_|refine zD ?_|refine zE rfl ?_|refine zF ?_|refine zG ?_|refine zH ?_|refine zI ?_|refine zJ ?_|refine zK ?_|refine zL rfl ?_|refine zN rfl ?_)
    refine wp_op (v := B false) rfl ?_
    repeat (first|refine zA ?_|refine zB rfl ?_|refine zC ?_|refine zD ?_|refine zE rfl ?_|refine zF ?_|refine zG ?_|refine zH ?_|refine zI ?_|refine zJ ?_|refine zK ?_|refine zL rfl ?_|refine zN rfl ?_)
    try unfold Try.a48x1
    repeat (first|refine zA ?_|refine zB rfl ?_|refine zC ?_|refine zD ?_|refine zE rfl ?_|refine zF ?_|refine zG ?_|refine zH ?_|refine zI ?_|refine zJ ?_|refine zK ?_|refine zL rfl ?_|refine zN rfl ?_)
    refine wp_row (j := 1) H _ rO_row rfl ?_
    refine wp_call (wpC_mono (rwithout_ok (n := E.length + 1) (id := f.id) rO_sl (by omega) H) fun u S1 H1 => ?_)
    repeat (first|refine zA ?_|refine zB rfl ?_|refine zC ?_|refine zD ?_|refine zE rfl ?_|refine zF ?_|refine zG ?_|refine zH ?_|refine zI ?_|refine zJ ?_|refine zK ?_|refine zL rfl ?_|refine zN rfl ?_)
    try unfold Try.a48x0
    refine wp_setL (L' := rmv f.id x.L) H1 fun S3 H4 => ?_
    exact wp_ret ⟨rfl, rfl, _, ⟨ho.rmv f.id, u, rfl⟩, H4⟩
theorem rnext_ok (h : RRep r x blk) (H : Cx B0 W S (E ++ (blk ++ R)) ro) : wpC EM (.fn (.func 62) [] []) [.ptr r 0] S fun u S' => u = nextR x ∧ Cx B0 W S' (E ++ (blk ++ R)) ro := by
  refine wpC_fn (b := Try.a62) rfl rfl ?_
  unfold Try.a62
  obtain ⟨ho, v, rfl⟩ := h
  repeat (first|refine zA ?_|refine zB rfl ?_|refine zC ?_|refine zD ?_|refine zE rfl ?_|refine zF ?_|refine zG ?_|refine zH ?_|refine zI ?_|refine zJ ?_|refine zK ?_|refine zL rfl ?_|refine zN rfl ?_)
  refine wp_row (j := 1) H _ rO_row rfl ?_
  have hs := H.rsl
  refine wp_lenE hs ?_
  rw [fis_len]
  unfold nextR
  cases hL : x.L with
  | nil =>
    refine wp_eql_t rfl ?_
    repeat (first|refine zA ?_|refine zB rfl ?_|refine zC ?_|refine zD ?_|refine zE rfl ?_|refine zF ?_|refine zG ?_|refine zH ?_|refine zI ?_|refine zJ ?_|refine zK ?_|refine zL rfl ?_|refine zN rfl ?_)
    exact wp_ret ⟨rfl, rfl, H⟩
  | cons f L' =>
    refine wp_eql_f (by simp; omega) ?_
    repeat (first|refine zA ?_|refine zB rfl ?_|refine zC ?_|refine zD ?_|refine zE rfl ?_|refine zF ?_|refine zG ?_|refine zH ?_|refine zI ?_|refine zJ ?_|refine zK ?_|refine zL rfl ?_|refine zN rfl ?_)
    try unfold Try.a62x0
    repeat (first|refine zA ?_|refine zB rfl ?_|refine zC ?_|refine zD ?_|refine zE rfl ?_|refine zF ?_|refine zG ?_|refine zH ?_|refine zI ?_|refine zJ ?_|refine zK ?_|refine zL rfl ?_|refine zN rfl ?_)
    refine wp_row (j := 1) H _ rO_row rfl ?_
    rw [hL] at hs
    refine wp_elem (i := 0) hs (x := f.cs) rfl fun q qo hp => ?_
    repeat (first|refine zA ?_|refine zB rfl ?_|refine zC ?_|refine zD ?_|refine zE rfl ?_|refine zF ?_|refine zG ?_|refine zH ?_|refine zI ?_|refine zJ ?_|refine zK ?_|refine zL rfl ?_|refine zN rfl ?_)
    refine wp_loadF (j := 1) hp rfl ?_
    exact wp_ret ⟨rfl, rfl, H⟩
/-- the digits are gone through: the last one that is another one tells the level -/
def PlaceIs (now a l lv sl : Nat) : Prop := (lev now a < l ∧ lv = lev now a ∧ sl = slo now a) ∨ (l ≤ lev now a ∧ (l = 0 → lv = 0 ∧ sl = a % 16))
theorem placeIs_step {now a l lv sl : Nat} (h : PlaceIs now a l lv sl) : if a / 16 ^ l % 16 ≠ now / 16 ^ l % 16 then PlaceIs now a (l + 1) l (a / 16 ^ l % 16) else PlaceIs now a (l + 1) lv sl := by
  have hslo : slo now a = a / 16 ^ lev now a % 16 := rfl
  rcases h with ⟨h1, h2, h3⟩ | ⟨h1, h2⟩
  · have := lev_dig_hi h1
    unfold dig at this
    rw [if_neg (by simpa using this)]
    exact .inl ⟨by omega, h2, h3⟩
  · by_cases e : l = lev now a
    · by_cases hz : l = 0
      · obtain ⟨q1, q2⟩ := h2 hz
        subst hz
        rw [← e] at hslo
        simp only [Nat.pow_zero, Nat.div_one] at hslo ⊢
        split
        · exact .inl ⟨by omega, by omega, by omega⟩
        · exact .inl ⟨by omega, by omega, by omega⟩
      · have := lev_dig_ne (now := now) (a := a) (by omega)
        unfold dig at this
        rw [← e] at this hslo
        rw [if_pos this]
        exact .inl ⟨by omega, by omega, by omega⟩
    · split
      · exact .inr ⟨by omega, fun h => by omega⟩
      · exact .inr ⟨by omega, fun h => by omega⟩
theorem rplc_ok (h : RRep r x blk) (H : Cx B0 W S (E ++ (blk ++ R)) ro) {a : Nat} (ha : a ≤ 1099511627776) :
    wpC EM (.fn (.func 105) [] []) [.ptr r 0, I (a : Int)] S fun u S' => u = .tup [I (lev x.now a : Int), I (slo x.now a : Int)] ∧ Cx B0 W S' (E ++ (blk ++ R)) ro := by
  refine wpC_fn (b := Try.a105) rfl rfl ?_
  unfold Try.a105
  obtain ⟨ho, v, rfl⟩ := h
  have hnow := ho.clk
  have rem16 : ∀ n : Nat, ((n : Int)).tmod 16 = ((n % 16 : Nat) : Int) := fun n => rfl
  have quo16 : ∀ n : Nat, ((n : Int)).tdiv 16 = ((n / 16 : Nat) : Int) := fun n => rfl
  refine wp_rem (by omega) ?_
  rw [rem16]
  repeat (first|refine zA ?_|refine zB rfl ?_|refine zC ?_|refine zD ?_|refine zE rfl ?_|refine zF ?_|refine zG ?_|refine zH ?_|refine zI ?_|refine zJ ?_|refine zK ?_|refine zL rfl ?_|refine zN rfl ?_)
  refine wp_row (j := 0) H _ rO_row rfl ?_
  try unfold Try.a105x2
  refine wp_bind (wp_loop (wpL_inv (fun m vs S1 => ∃ (l lv sl : Nat), vs = [I (l : Int), I ((x.now / 16 ^ l : Nat) : Int), I ((a / 16 ^ l : Nat) : Int), I (sl : Int), I (lv : Int)] ∧ l ≤ 11 ∧ m = 11 - l ∧ PlaceIs x.now a l lv sl ∧ Cx B0 W S1 (E ++ (rOwn r x v ++ R)) ro) ?_ 11
    ⟨0, 0, a % 16, by simp only [Nat.pow_zero, Nat.div_one]; rfl, by omega, by omega, .inr ⟨by omega, fun _ => ⟨rfl, rfl⟩⟩, H⟩))
  clear H
  rintro m vs S1 ⟨l, lv, sl, rfl, hl, rfl, hP, H⟩
  have hst := placeIs_step hP
  have hda : a / 16 ^ l ≤ a := Nat.div_le_self ..
  have hdn : x.now / 16 ^ l ≤ x.now := Nat.div_le_self ..
  have e1 : a / 16 ^ l / 16 = a / 16 ^ (l + 1) := by rw [Nat.div_div_eq_div_mul, ← Nat.pow_succ]
  have e2 : x.now / 16 ^ l / 16 = x.now / 16 ^ (l + 1) := by rw [Nat.div_div_eq_div_mul, ← Nat.pow_succ]
  refine wp_leq (fun hle => ?_) (fun hgt => ?_)
  · repeat (first|refine zA ?_|refine zB rfl ?_|refine zC ?_|refine zD ?_|refine zE rfl ?_|refine zF ?_|refine zG ?_|refine zH ?_|refine zI ?_|refine zJ ?_|refine zK ?_|refine zL rfl ?_|refine zN rfl ?_)
    try unfold Try.a105x1
    refine wp_bind (wp_mono (Q := fun t vs S' => t = .normal ∧ ∃ lv sl : Nat, vs = [I ((x.now / 16 ^ (l + 1) : Nat) : Int), I ((a / 16 ^ (l + 1) : Nat) : Int), I (sl : Int), I (lv : Int)] ∧ PlaceIs x.now a (l + 1) lv sl ∧ Cx B0 W S' (E ++ (rOwn r x v ++ R)) ro) ?_ ?_)
    · refine wp_rem (by omega) ?_
      refine wp_rem (by omega) ?_
      rw [rem16, rem16]
      have last : ∀ (lv sl : Nat), PlaceIs x.now a (l + 1) lv sl → wp EM (.op (.bin .quo (I ((a / 16 ^ l : Nat) : Int)) (I 16)) fun v11 => .op (.bin .quo (I ((x.now / 16 ^ l : Nat) : Int)) (I 16)) fun v12 => .ret .normal [v12, v11, I (sl : Int), I (lv : Int)]) S1
          fun t vs S' => t = .normal ∧ ∃ lv sl : Nat, vs = [I ((x.now / 16 ^ (l + 1) : Nat) : Int), I ((a / 16 ^ (l + 1) : Nat) : Int), I (sl : Int), I (lv : Int)] ∧ PlaceIs x.now a (l + 1) lv sl ∧ Cx B0 W S' (E ++ (rOwn r x v ++ R)) ro := by
        intro lv sl hP
        refine wp_quo (c := ((a / 16 ^ (l + 1) : Nat) : Int)) (by omega) (by rw [quo16, e1]; have hq : a / 16 ^ (l + 1) ≤ a := Nat.div_le_self ..; revert hq; generalize a / 16 ^ (l + 1) = q; intro hq; exact wrap64 (by omega) (by omega)) ?_
        refine wp_quo (c := ((x.now / 16 ^ (l + 1) : Nat) : Int)) (by omega) (by rw [quo16, e2]; have hq : x.now / 16 ^ (l + 1) ≤ x.now := Nat.div_le_self ..; revert hq; generalize x.now / 16 ^ (l + 1) = q; intro hq; exact wrap64 (by omega) (by omega)) ?_
        exact wp_ret ⟨rfl, lv, sl, rfl, hP, H⟩
      try unfold Try.a105x0
      refine wp_neq (fun hne => ?_) (fun he => ?_)
      · rw [if_pos (by omega)] at hst
        refine wp_bind (wp_ite_t ?_)
        refine wp_rem (by omega) ?_
        rw [rem16]
        refine wp_ret ?_
        show wp EM _ _ _
        exact last l (a / 16 ^ l % 16) hst
      · rw [if_neg (by omega)] at hst
        refine wp_bind (wp_ite_f (wp_ret ?_))
        show wp EM _ _ _
        exact last lv sl hst
    · rintro t vs S2 ⟨rfl, lv, sl, rfl, hP, H⟩
      show wp EM _ _ _
      exact wp_add64 (by omega) (by omega) (wp_ret (.inl ⟨rfl, 11 - (l + 1), by omega, l + 1, lv, sl, rfl, by omega, rfl, hP, H⟩))
  · have : l = 11 := by omega
    subst this
    repeat (first|refine zA ?_|refine zB rfl ?_|refine zC ?_|refine zD ?_|refine zE rfl ?_|refine zF ?_|refine zG ?_|refine zH ?_|refine zI ?_|refine zJ ?_|refine zK ?_|refine zL rfl ?_|refine zN rfl ?_)
    refine wp_ret (.inr ⟨by simp, ?_⟩)
    show wp EM _ _ _
    have hll := lev_le (now := x.now) (a := a) (by omega) (by omega)
    obtain ⟨_, rfl, rfl⟩ := hP.resolve_right (by rintro ⟨h, _⟩; omega)
    exact wp_ret ⟨rfl, rfl, H⟩
theorem rplace_ok (h : RRep r x blk) (H : Cx B0 W S (E ++ (blk ++ R)) ro) {id : Int} : wpC EM (.fn (.func 60) [] []) [.ptr r 0, I id] S fun u S' => u = placeR x id ∧ Cx B0 W S' (E ++ (blk ++ R)) ro := by
  refine wpC_fn (b := Try.a60) rfl rfl ?_
  unfold Try.a60
  refine wp_call (wpC_mono (rat_ok h H) fun u S1 ⟨hu, H⟩ => ?_)
  subst hu
  unfold atR placeR
  cases hq : fnd x.L id with
  | none =>
    repeat (first|refine zA ?_|refine zB rfl ?_|refine zC ?_|refine zD ?_|refine zE rfl ?_|refine zF ?_|refine zG ?_|refine zH ?_|refine zI ?_|refine zJ ?_|refine zK ?_|refine zL rfl ?_|refine zN rfl ?_)
    refine wp_op (v := B true) rfl ?_
    repeat (first|refine zA ?_|refine zB rfl ?_|refine zC ?_|refine zD ?_|refine zE rfl ?_|refine zF ?_|refine zG ?_|refine zH ?_|refine zI ?_|refine zJ ?_|refine zK ?_|refine zL rfl ?_|refine zN rfl ?_)
    exact wp_ret ⟨rfl, rfl, H⟩
  | some f =>
    repeat (first|refine zA ?_|refine zB rfl ?_|refine zC ?_|refine zD ?_|refine zE rfl ?_|refine zF ?_|refine zG ?_|refine zH ?_|refine zI ?_|refine zJ ?_|refine zK ?_|refine zL rfl ?_|refine zN rfl ?_)
    refine wp_op (v := B false) rfl ?_
    repeat (first|refine zA ?_|refine zB rfl ?_|refine zC ?_|refine zD ?_|refine zE rfl ?_|refine zF ?_|refine zG ?_|refine zH ?_|refine zI ?_|refine zJ ?_|refine zK ?_|refine zL rfl ?_|refine zN rfl ?_)
    try unfold Try.a60x0
    refine wp_call (wpC_mono (rplc_ok (a := f.tm) h H (h.1.le f (fnd_mem hq).1)) fun u S1 ⟨hu, H⟩ => ?_)
    subst hu
    repeat (first|refine zA ?_|refine zB rfl ?_|refine zC ?_|refine zD ?_|refine zE rfl ?_|refine zF ?_|refine zG ?_|refine zH ?_|refine zI ?_|refine zJ ?_|refine zK ?_|refine zL rfl ?_|refine zN rfl ?_)
    exact wp_ret ⟨rfl, rfl, H⟩
theorem filter_take {p : Fi → Bool} {L : List Fi} {i : Nat} (h : i < L.length) : (L.take (i + 1)).filter p = if p L[i] = true then (L.take i).filter p ++ [L[i]] else (L.take i).filter p := by
  rw [List.take_succ_eq_append_getElem h, List.filter_append]
  by_cases e : p L[i] = true
  · rw [if_pos e, List.filter_cons_of_pos e]; rfl
  · rw [if_neg e, List.filter_cons_of_neg e]; simp
theorem rlevel_ok (h : RRep r x blk) (H : Cx B0 W S (E ++ (blk ++ R)) ro) {l : Int} : wpC EM (.fn (.func 67) [] []) [.ptr r 0, I l] S fun u S' => Cx B0 W S' (.sl u 2 (fis (x.L.filter fun f => (lev x.now f.tm : Int) == l)) :: (E ++ (blk ++ R))) ro := by
  refine wpC_fn (b := Try.a67) rfl rfl ?_
  unfold Try.a67
  have hlen := h.1.len
  refine wp_bind (wp_loop (wpL_inv (fun m vs S1 => ∃ (i : Nat) (u : AV), vs = [I (i : Int), u] ∧ i ≤ x.L.length ∧ m = x.L.length - i ∧ Cx B0 W S1 (.sl u 2 (fis ((x.L.take i).filter fun f => (lev x.now f.tm : Int) == l)) :: (E ++ (blk ++ R))) ro) ?_ x.L.length ⟨0, Ns, rfl, by omega, by omega, H.addNil 2⟩))
  clear H
  rintro m vs S1 ⟨i, u, rfl, hi, rfl, H⟩
  have h0 := h
  obtain ⟨ho, v, rfl⟩ := h
  have hle : ((x.L.take i).filter fun f => (lev x.now f.tm : Int) == l).length ≤ x.L.length := Nat.le_trans (List.length_filter_le ..) (by rw [List.length_take]; omega)
  try unfold Try.a67x5
  repeat (first|refine zA ?_|refine zB rfl ?_|refine zC ?_|refine zD ?_|refine zE rfl ?_|refine zF ?_|refine zG ?_|refine zH ?_|refine zI ?_|refine zJ ?_|refine zK ?_|refine zL rfl ?_|refine zN rfl ?_)
  refine wp_row (j := 1) H _ (rO_row (E := .sl u 2 _ :: E)) rfl ?_
  have hs := Cx.rsl (E := .sl u 2 (fis ((x.L.take i).filter fun f => (lev x.now f.tm : Int) == l)) :: E) H
  refine wp_lenE hs ?_
  rw [fis_len]
  refine wp_lss (fun hlt => ?_) (fun hge => ?_)
  · have hlt : i < x.L.length := by omega
    repeat (first|refine zA ?_|refine zB rfl ?_|refine zC ?_|refine zD ?_|refine zE rfl ?_|refine zF ?_|refine zG ?_|refine zH ?_|refine zI ?_|refine zJ ?_|refine zK ?_|refine zL rfl ?_|refine zN rfl ?_)
    try unfold Try.a67x4
    refine wp_bind ?_
    repeat (first|refine zA ?_|refine zB rfl ?_|refine zC ?_|refine zD ?_|refine zE rfl ?_|refine zF ?_|refine zG ?_|refine zH ?_|refine zI ?_|refine zJ ?_|refine zK ?_|refine zL rfl ?_|refine zN rfl ?_)
    refine wp_row (j := 1) H _ (rO_row (E := .sl u 2 _ :: E)) rfl ?_
    try unfold Try.a67x3
    refine wp_elem (i := i) hs (fis_get hlt) fun q qo hp => ?_
    repeat (first|refine zA ?_|refine zB rfl ?_|refine zC ?_|refine zD ?_|refine zE rfl ?_|refine zF ?_|refine zG ?_|refine zH ?_|refine zI ?_|refine zJ ?_|refine zK ?_|refine zL rfl ?_|refine zN rfl ?_)
    refine wp_loadF (j := 1) hp rfl ?_
    refine wp_call (wpC_mono (rplc_ok (E := .sl u 2 (fis ((x.L.take i).filter fun f => (lev x.now f.tm : Int) == l)) :: E) (a := x.L[i].tm) h0 H (ho.le _ (List.getElem_mem hlt))) fun w S2 ⟨hw, H⟩ => ?_)
    subst hw
    repeat (first|refine zA ?_|refine zB rfl ?_|refine zC ?_|refine zD ?_|refine zE rfl ?_|refine zF ?_|refine zG ?_|refine zH ?_|refine zI ?_|refine zJ ?_|refine zK ?_|refine zL rfl ?_|refine zN rfl ?_)
    try unfold Try.a67x2
    have hft := filter_take (p := fun f => (lev x.now f.tm : Int) == l) hlt
    refine wp_eql (fun he => ?_) (fun hne => ?_)
    · rw [if_pos (by simpa using he)] at hft
      refine wp_bind (wp_ite_t ?_)
      try unfold Try.a67x1
      repeat (first|refine zA ?_|refine zB rfl ?_|refine zC ?_|refine zD ?_|refine zE rfl ?_|refine zF ?_|refine zG ?_|refine zH ?_|refine zI ?_|refine zJ ?_|refine zK ?_|refine zL rfl ?_|refine zN rfl ?_)
      refine wp_row (j := 1) H _ (rO_row (E := .sl u 2 _ :: E)) rfl ?_
      have hs2 := Cx.rsl (E := .sl u 2 (fis ((x.L.take i).filter fun f => (lev x.now f.tm : Int) == l)) :: E) H
      refine wp_elem (i := i) hs2 (fis_get hlt) fun q2 qo2 hp2 => ?_
      refine wp_loadFn (j := 0) (n := 2) hp2 (by show 0 + 2 ≤ 2; omega) ?_
      rw [agg2]
      try unfold Try.a67x0
      refine wp_push (L := fis ((x.L.take i).filter fun f => (lev x.now f.tm : Int) == l)) (x := .agg x.L[i].cs) H 0 rfl rfl rfl rfl (by rw [fis_len]; unfold maxBytes; omega) (by rw [fis_len]; unfold maxLenN; omega) fun u1 S3 H3 => ?_
      refine wp_ret ?_
      show wp EM _ _ _
      refine wp_ret ?_
      show wp EM _ _ _
      refine wp_add64 (by omega) (by omega) (wp_ret (.inl ⟨rfl, x.L.length - (i + 1), by omega, i + 1, u1, rfl, by omega, rfl, ?_⟩))
      rw [hft, fis_app]; exact H3
    · rw [if_neg (by simpa using hne)] at hft
      refine wp_bind (wp_ite_f (wp_ret ?_))
      show wp EM _ _ _
      refine wp_ret ?_
      show wp EM _ _ _
      refine wp_add64 (by omega) (by omega) (wp_ret (.inl ⟨rfl, x.L.length - (i + 1), by omega, i + 1, u, rfl, by omega, rfl, ?_⟩))
      rw [hft]; exact H
  · have : i = x.L.length := by omega
    subst this
    repeat (first|refine zA ?_|refine zB rfl ?_|refine zC ?_|refine zD ?_|refine zE rfl ?_|refine zF ?_|refine zG ?_|refine zH ?_|refine zI ?_|refine zJ ?_|refine zK ?_|refine zL rfl ?_|refine zN rfl ?_)
    refine wp_ret (.inr ⟨by simp, ?_⟩)
    show wp EM _ _ _
    rw [List.take_length] at H
    exact wp_ret ⟨rfl, H⟩
theorem rto_ok (h : RRep r x blk) (H : Cx B0 W S (E ++ (blk ++ R)) ro) {to : Int} : wpC EM (.fn (.func 99) [] []) [.ptr r 0, I to] S fun u S' => u = I (mayE x to) ∧ Cx B0 W S' (E ++ (blk ++ R)) ro := by
  refine wpC_fn (b := Try.a99) rfl rfl ?_
  obtain ⟨ho, v, rfl⟩ := h
  unfold Try.a99
  refine wp_bind ?_
  refine wp_callV H rtime_ok fun S1 H => ?_
  unfold mayE
  by_cases ht : 0 ≤ to ∧ to ≤ 1099511627776
  · rw [decide_eq_true ht, if_pos ht]
    refine wp_op (v := B false) rfl ?_
    repeat (first|refine zA ?_|refine zB rfl ?_|refine zC ?_|refine zD ?_|refine zE rfl ?_|refine zF ?_|refine zG ?_|refine zH ?_|refine zI ?_|refine zJ ?_|refine zK ?_|refine zL rfl ?_|refine zN rfl ?_)
    try unfold Try.a99x0
    repeat (first|refine zA ?_|refine zB rfl ?_|refine zC ?_|refine zD ?_|refine zE rfl ?_|refine zF ?_|refine zG ?_|refine zH ?_|refine zI ?_|refine zJ ?_|refine zK ?_|refine zL rfl ?_|refine zN rfl ?_)
    refine wp_row (j := 0) H _ rO_row rfl ?_
    refine wp_lss (fun h3 => ?_) (fun h3 => ?_)
    · repeat (first|refine zA ?_|refine zB rfl ?_|refine zC ?_|refine zD ?_|refine zE rfl ?_|refine zF ?_|refine zG ?_|refine zH ?_|refine zI ?_|refine zJ ?_|refine zK ?_|refine zL rfl ?_|refine zN rfl ?_)
      rw [if_pos h3]
      exact wp_ret ⟨rfl, rfl, H⟩
    · repeat (first|refine zA ?_|refine zB rfl ?_|refine zC ?_|refine zD ?_|refine zE rfl ?_|refine zF ?_|refine zG ?_|refine zH ?_|refine zI ?_|refine zJ ?_|refine zK ?_|refine zL rfl ?_|refine zN rfl ?_)
      rw [if_neg (by omega)]
      refine wp_ret ?_
      show wp EM _ _ _
      exact wp_ret ⟨rfl, rfl, H⟩
  · rw [decide_eq_false ht, if_neg ht]
    refine wp_op (v := B true) rfl ?_
    repeat (first|refine zA ?_|refine zB rfl ?_|refine zC ?_|refine zD ?_|refine zE rfl ?_|refine zF ?_|refine zG ?_|refine zH ?_|refine zI ?_|refine zJ ?_|refine zK ?_|refine zL rfl ?_|refine zN rfl ?_)
    exact wp_ret ⟨rfl, rfl, H⟩
end
end Go.Abs
namespace Go.Abs
open Go.Proofs
set_option maxRecDepth 100000
set_option linter.unusedVariables false
open Tsk (Tk tks tchk tnext timed since many TOk)
section
variable {B0 S : AH} {W : List Nat} {own E R : List Own} {ro : List Fct} {Q : Post} {k : AV → AC} {r : Nat} {x : Wl} {blk : List Own} {v : AV}
/-- in order, those that are due are ahead of the others -/
theorem due_take {x : Wl} (h : x.Ok) {to : Int} {n : Nat} (hn : n ≤ x.L.length) (h1 : ∀ j (hj : j < x.L.length), j < n → (x.L[j].tm : Int) ≤ to) (h2 : ∀ (hl : n < x.L.length), to < (x.L[n].tm : Int)) : dueL x to = x.L.take n ∧ leftL x to = x.L.drop n := by
  have ht : ∀ f ∈ x.L.take n, (f.tm : Int) ≤ to := by
    intro f hf
    obtain ⟨j, hj, rfl⟩ := List.mem_iff_getElem.1 hf
    rw [List.length_take] at hj
    rw [List.getElem_take]
    exact h1 j (by omega) (by omega)
  have hd : ∀ f ∈ x.L.drop n, to < (f.tm : Int) := by
    intro f hf
    obtain ⟨j, hj, rfl⟩ := List.mem_iff_getElem.1 hf
    rw [List.length_drop] at hj
    rw [List.getElem_drop]
    have hl : n < x.L.length := by omega
    have h3 := h2 hl
    by_cases e : j = 0
    · subst e; exact h3
    · have := ord_get h.ord (i := n) (j := n + j) (by omega) (by omega)
      have h4 : x.L[n].tm ≤ x.L[n + j].tm := by
        rcases this with h | h <;> omega
      omega
  unfold dueL leftL
  constructor
  · conv => lhs; rw [← List.take_append_drop n x.L]
    rw [List.filter_append, List.filter_eq_self.2 (fun f hf => by simpa using ht f hf), List.filter_eq_nil_iff.2 (fun f hf => by have := hd f hf; simp; omega), List.append_nil]
  · conv => lhs; rw [← List.take_append_drop n x.L]
    rw [List.filter_append, List.filter_eq_nil_iff.2 (fun f hf => by have := ht f hf; simp; omega), List.filter_eq_self.2 (fun f hf => by simpa using hd f hf), List.nil_append]
theorem Wl.Ok.left {x : Wl} (h : x.Ok) {to : Nat} (hto : to ≤ 1099511627776) {L' : List Fi} (hs : L'.Sublist x.L) (hg : ∀ f ∈ L', to ≤ f.tm) : Wl.Ok ⟨to, L'⟩ where
  clk := hto
  ord := h.ord.sublist hs
  nd := h.nd.sublist (hs.map _)
  ge := hg
  le := fun f hf => h.le f (hs.subset hf)
  id := fun f hf => h.id f (hs.subset hf)
theorem rtick_ok (h : RRep r x blk) (H : Cx B0 W S (E ++ (blk ++ R)) ro) {to : Int} :
    wpC EM (.fn (.func 50) [] []) [.ptr r 0, I to] S fun u S' => ∃ v blk', u = .tup [v, I (mayE x to)] ∧ RRep r (tickX x to) blk' ∧ Cx B0 W S' (.sl v 2 (fis (tickL x to)) :: (E ++ (blk' ++ R))) ro := by
  refine wpC_fn (b := Try.a50) rfl rfl ?_
  unfold Try.a50
  refine wp_call (wpC_mono (rto_ok (to := to) h H) fun v S1 ⟨hv, H⟩ => ?_)
  subst hv
  unfold tickX tickL
  refine wp_neq (fun hne => ?_) (fun hz => ?_)
  · repeat (first|refine zA ?_|refine zB rfl ?_|refine zC ?_|refine zD ?_|refine zE rfl ?_|refine zF ?_|refine zG ?_|refine zH ?_|refine zI ?_|refine zJ ?_|refine zK ?_|refine zL rfl ?_|refine zN rfl ?_)
    rw [if_neg hne, if_neg hne]
    exact wp_ret ⟨rfl, Ns, blk, rfl, h, H.addNil 2⟩
  · repeat (first|refine zA ?_|refine zB rfl ?_|refine zC ?_|refine zD ?_|refine zE rfl ?_|refine zF ?_|refine zG ?_|refine zH ?_|refine zI ?_|refine zJ ?_|refine zK ?_|refine zL rfl ?_|refine zN rfl ?_)
    rw [if_pos hz, if_pos hz, hz]
    have hto : 0 ≤ to ∧ to ≤ 1099511627776 ∧ ¬ to < x.now := by
      unfold mayE at hz
      split at hz
      · next h1 =>
        split at hz
        · cases hz
        · next h2 => exact ⟨h1.1, h1.2, h2⟩
      · cases hz
    obtain ⟨t, rfl⟩ : ∃ t : Nat, to = (t : Int) := ⟨to.toNat, by omega⟩
    obtain ⟨ho, v, rfl⟩ := h
    have hlen := ho.len
    refine wp_bind ?_
    try unfold Try.a50x4
    refine wp_loop (wpL_inv (fun m vs S1 => ∃ (n : Nat), vs = [I (n : Int)] ∧ n ≤ x.L.length ∧ m = x.L.length - n ∧ (∀ j (hj : j < x.L.length), j < n → (x.L[j].tm : Int) ≤ (t : Int)) ∧ Cx B0 W S1 (E ++ (rOwn r x v ++ R)) ro) ?_ x.L.length ⟨0, rfl, by omega, by omega, fun j _ h => by omega, H⟩)
    clear H
    rintro m vs S2 ⟨n, rfl, hn, rfl, hle, H⟩
    have hs := H.rsl
    repeat (first|refine zA ?_|refine zB rfl ?_|refine zC ?_|refine zD ?_|refine zE rfl ?_|refine zF ?_|refine zG ?_|refine zH ?_|refine zI ?_|refine zJ ?_|refine zK ?_|refine zL rfl ?_|refine zN rfl ?_)
    refine wp_row (j := 1) H _ rO_row rfl ?_
    try unfold Try.a50x3
    refine wp_lenE hs ?_
    rw [fis_len]
    -- how it ends: what is due is told, the others are left
    have fin : ∀ S, Cx B0 W S (E ++ (rOwn r x v ++ R)) ro → (∀ (hl : n < x.L.length), (t : Int) < (x.L[n].tm : Int)) → wp EM (Try.a50x7 [.ptr r 0, I (t : Int)] [I (n : Int)]) S
        fun tg vs S' => tg = .ret ∧ ∃ v blk', oneOf vs = .tup [v, I 0] ∧ RRep r ⟨(t : Int).toNat, leftL x (t : Int)⟩ blk' ∧ Cx B0 W S' (.sl v 2 (fis (dueL x (t : Int))) :: (E ++ (blk' ++ R))) ro := by
      intro S H hend
      obtain ⟨q1, q2⟩ := due_take ho hn hle hend
      try unfold Try.a50x7
      refine wp_bsl0 H rfl fun a S3 H => ?_
      repeat (first|refine zA ?_|refine zB rfl ?_|refine zC ?_|refine zD ?_|refine zE rfl ?_|refine zF ?_|refine zG ?_|refine zH ?_|refine zI ?_|refine zJ ?_|refine zK ?_|refine zL rfl ?_|refine zN rfl ?_)
      refine wp_row (j := 1) H _ (rO_row (E := .sl a 2 [] :: E)) rfl ?_
      obtain ⟨w1, e1, hw1⟩ := slOk_prefix (M := EM) (i := n) (Cx.rsl (E := .sl a 2 [] :: E) H) (by rw [fis_len]; exact hn)
      refine wp_op e1 ?_
      rw [← fis_take] at hw1
      refine wp_append (N := fis (x.L.take n)) H 0 rfl (slOk_elems hw1) (fis_all _) (by rw [fis_len, List.length_take]; unfold maxBytes; simp; omega) (by rw [fis_len, List.length_take]; unfold maxLenN; simp; omega) fun a1 S4 H4 => ?_
      have H4 : Cx B0 W S4 (.sl a1 2 (fis (x.L.take n)) :: (E ++ (rOwn r x v ++ R))) ro := H4
      try unfold Try.a50x6
      refine wp_bsl0 H4 rfl fun b S5 H5 => ?_
      repeat (first|refine zA ?_|refine zB rfl ?_|refine zC ?_|refine zD ?_|refine zE rfl ?_|refine zF ?_|refine zG ?_|refine zH ?_|refine zI ?_|refine zJ ?_|refine zK ?_|refine zL rfl ?_|refine zN rfl ?_)
      refine wp_row (j := 1) H5 _ (rO_row (E := .sl b 2 [] :: .sl a1 2 (fis (x.L.take n)) :: E)) rfl ?_
      obtain ⟨w2, e2, hw2⟩ := slOk_suffix (M := EM) (i := n) (Cx.rsl (E := .sl b 2 [] :: .sl a1 2 (fis (x.L.take n)) :: E) H5) (by rw [fis_len]; exact hn)
      refine wp_op e2 ?_
      have hfd : (fis x.L).drop n = fis (x.L.drop n) := (List.map_drop ..).symm
      rw [hfd] at hw2
      refine wp_append (N := fis (x.L.drop n)) H5 0 rfl (slOk_elems hw2) (fis_all _) (by rw [fis_len, List.length_drop]; unfold maxBytes; simp; omega) (by rw [fis_len, List.length_drop]; unfold maxLenN; simp; omega) fun b1 S6 H6 => ?_
      have H6 : Cx B0 W S6 (.sl b1 2 (fis (x.L.drop n)) :: ((.sl a1 2 (fis (x.L.take n)) :: E) ++ (rOwn r x v ++ R))) ro := H6
      try unfold Try.a50x5
      repeat (first|refine zA ?_|refine zB rfl ?_|refine zC ?_|refine zD ?_|refine zE rfl ?_|refine zF ?_|refine zG ?_|refine zH ?_|refine zI ?_|refine zJ ?_|refine zK ?_|refine zL rfl ?_|refine zN rfl ?_)
      refine wp_setL (E := .sl a1 2 (fis (x.L.take n)) :: E) (L' := x.L.drop n) H6 fun S7 H7 => ?_
      repeat (first|refine zA ?_|refine zB rfl ?_|refine zC ?_|refine zD ?_|refine zE rfl ?_|refine zF ?_|refine zG ?_|refine zH ?_|refine zI ?_|refine zJ ?_|refine zK ?_|refine zL rfl ?_|refine zN rfl ?_)
      refine wp_set1 (c := [I (x.now : Int), b1]) (j := 0) (v := I (t : Int)) H7 ((Own.sl a1 2 (fis (x.L.take n)) :: E).length + 0) (rO_row (E := .sl a1 2 (fis (x.L.take n)) :: E)) (by simp) rfl rfl fun S8 H8 => ?_
      rw [app_set] at H8
      have H8 : Cx B0 W S8 (.sl a1 2 (fis (x.L.take n)) :: (E ++ (rOwn r ⟨t, x.L.drop n⟩ b1 ++ R))) ro := H8
      refine wp_ret ⟨rfl, a1, _, rfl, ⟨?_, b1, rfl⟩, ?_⟩
      · show Wl.Ok ⟨t, leftL x (t : Int)⟩
        exact ho.left (by omega) (List.filter_sublist ..) fun f hf => by
          have := (List.mem_filter.1 hf).2
          simp at this; omega
      · rw [q1, q2]; exact H8
    refine wp_lss (fun hlt => ?_) (fun hge => ?_)
    · have hlt : n < x.L.length := by omega
      repeat (first|refine zA ?_|refine zB rfl ?_|refine zC ?_|refine zD ?_|refine zE rfl ?_|refine zF ?_|refine zG ?_|refine zH ?_|refine zI ?_|refine zJ ?_|refine zK ?_|refine zL rfl ?_|refine zN rfl ?_)
      refine wp_row (j := 1) H _ rO_row rfl ?_
      try unfold Try.a50x2
      repeat (first|refine zA ?_|refine zB rfl ?_|refine zC ?_|refine zD ?_|refine zE rfl ?_|refine zF ?_|refine zG ?_|refine zH ?_|refine zI ?_|refine zJ ?_|refine zK ?_|refine zL rfl ?_|refine zN rfl ?_)
      refine wp_elem (i := n) hs (fis_get hlt) fun q qo hp => ?_
      repeat (first|refine zA ?_|refine zB rfl ?_|refine zC ?_|refine zD ?_|refine zE rfl ?_|refine zF ?_|refine zG ?_|refine zH ?_|refine zI ?_|refine zJ ?_|refine zK ?_|refine zL rfl ?_|refine zN rfl ?_)
      refine wp_loadF (j := 1) hp rfl ?_
      repeat (first|refine zA ?_|refine zB rfl ?_|refine zC ?_|refine zD ?_|refine zE rfl ?_|refine zF ?_|refine zG ?_|refine zH ?_|refine zI ?_|refine zJ ?_|refine zK ?_|refine zL rfl ?_|refine zN rfl ?_)
      try unfold Try.a50x1
      refine wp_leq (fun hl2 => ?_) (fun hg2 => ?_)
      · repeat (first|refine zA ?_|refine zB rfl ?_|refine zC ?_|refine zD ?_|refine zE rfl ?_|refine zF ?_|refine zG ?_|refine zH ?_|refine zI ?_|refine zJ ?_|refine zK ?_|refine zL rfl ?_|refine zN rfl ?_)
        refine wp_bind ?_
        try unfold Try.a50x0
        refine wp_add64 (by omega) (by omega) (wp_ret ?_)
        show wp EM _ _ _
        refine wp_ret (.inl ⟨rfl, x.L.length - (n + 1), by omega, n + 1, rfl, by omega, rfl, fun j hj hjn => ?_, H⟩)
        by_cases e : j = n
        · subst e; exact hl2
        · exact hle j hj (by omega)
      · repeat (first|refine zA ?_|refine zB rfl ?_|refine zC ?_|refine zD ?_|refine zE rfl ?_|refine zF ?_|refine zG ?_|refine zH ?_|refine zI ?_|refine zJ ?_|refine zK ?_|refine zL rfl ?_|refine zN rfl ?_)
        refine wp_ret (.inr ⟨by simp, ?_⟩)
        exact fin _ H fun _ => hg2
    · repeat (first|refine zA ?_|refine zB rfl ?_|refine zC ?_|refine zD ?_|refine zE rfl ?_|refine zF ?_|refine zG ?_|refine zH ?_|refine zI ?_|refine zJ ?_|refine zK ?_|refine zL rfl ?_|refine zN rfl ?_)
      try unfold Try.a50x2
      repeat (first|refine zA ?_|refine zB rfl ?_|refine zC ?_|refine zD ?_|refine zE rfl ?_|refine zF ?_|refine zG ?_|refine zH ?_|refine zI ?_|refine zJ ?_|refine zK ?_|refine zL rfl ?_|refine zN rfl ?_)
      try unfold Try.a50x1
      repeat (first|refine zA ?_|refine zB rfl ?_|refine zC ?_|refine zD ?_|refine zE rfl ?_|refine zF ?_|refine zG ?_|refine zH ?_|refine zI ?_|refine zJ ?_|refine zK ?_|refine zL rfl ?_|refine zN rfl ?_)
      refine wp_ret (.inr ⟨by simp, ?_⟩)
      exact fin _ H fun hl => by omega
theorem rload_ok {v : AV} {l : List Tk} (hv : Fct.sl v 4 (tks l) ∈ ro) (h : RRep r x blk) (H : Cx B0 W S (E ++ (blk ++ R)) ro) :
    wpC EM (.fn (.func 54) [] []) [.ptr r 0, v] S fun u S' => u = I (tchk l) ∧ ∃ blk', RRep r (loadX x l) blk' ∧ Cx B0 W S' (E ++ (blk' ++ R)) ro := by
  refine wpC_fn (b := Try.a54) rfl rfl ?_
  unfold Try.a54
  refine wp_callV H (Tsk.refCheck_ok (l := l) (H.roSl hv)) fun S2 H => ?_
  unfold loadX
  refine wp_neq (fun hne => ?_) (fun hz => ?_)
  · repeat (first|refine zA ?_|refine zB rfl ?_|refine zC ?_|refine zD ?_|refine zE rfl ?_|refine zF ?_|refine zG ?_|refine zH ?_|refine zI ?_|refine zJ ?_|refine zK ?_|refine zL rfl ?_|refine zN rfl ?_)
    rw [if_neg hne]
    exact wp_ret ⟨rfl, rfl, blk, h, H⟩
  · repeat (first|refine zA ?_|refine zB rfl ?_|refine zC ?_|refine zD ?_|refine zE rfl ?_|refine zF ?_|refine zG ?_|refine zH ?_|refine zI ?_|refine zJ ?_|refine zK ?_|refine zL rfl ?_|refine zN rfl ?_)
    rw [if_pos hz, hz]
    have hlen := Tsk.tchk_len hz
    try unfold Try.a54x3
    refine wp_bind (wp_loop (wpL_inv (fun k vs1 S1 => ∃ (i : Nat) (blk : List Own), vs1 = [I (i : Int)] ∧ i ≤ l.length ∧ k = l.length - i ∧ RRep r (loadN x l i) blk ∧ Cx B0 W S1 (E ++ (blk ++ R)) ro) ?_ l.length ⟨0, blk, rfl, by omega, by omega, h, H⟩))
    clear H h
    rintro k vs1 S1 ⟨i, blk, rfl, hi, rfl, h, H⟩
    refine wp_len H hv ?_
    rw [Tsk.tks_len]
    refine wp_lss (fun hlt => ?_) (fun hge => ?_)
    · have hlt : i < l.length := by omega
      repeat (first|refine zA ?_|refine zB rfl ?_|refine zC ?_|refine zD ?_|refine zE rfl ?_|refine zF ?_|refine zG ?_|refine zH ?_|refine zI ?_|refine zJ ?_|refine zK ?_|refine zL rfl ?_|refine zN rfl ?_)
      try unfold Try.a54x2
      refine wp_bind ?_
      refine wp_saddr (i := i) H hv (Tsk.tks_get hlt) fun q qo H1 => ?_
      refine wp_loada (n := 4) H1 (cs := l[i].cs) (by repeat (first | exact List.Mem.head _ | apply List.Mem.tail)) (Nat.le_refl _) ?_
      replace H := H1.tl
      repeat (first|refine zA ?_|refine zB rfl ?_|refine zC ?_|refine zD ?_|refine zE rfl ?_|refine zF ?_|refine zG ?_|refine zH ?_|refine zI ?_|refine zJ ?_|refine zK ?_|refine zL rfl ?_|refine zN rfl ?_)
      try unfold Try.a54x1
      have h0 := h
      obtain ⟨ho, u, rfl⟩ := h
      repeat (first|refine zA ?_|refine zB rfl ?_|refine zC ?_|refine zD ?_|refine zE rfl ?_|refine zF ?_|refine zG ?_|refine zH ?_|refine zI ?_|refine zJ ?_|refine zK ?_|refine zL rfl ?_|refine zN rfl ?_)
      refine wp_row (j := 0) H _ rO_row (v := I ((loadN x l i).now : Int)) rfl ?_
      rw [loadN_now]
      refine wp_callV H (Tsk.refNext_ok (x := l[i]) (now := x.now)) fun S3 H => ?_
      have e1 : loadN x l (i + 1) = match nxt l[i] x.now with | some a => (loadN x l i).put ⟨i, a⟩ | none => loadN x l i := by
        conv => lhs; unfold loadN
        rw [List.getElem?_eq_getElem hlt]
        rfl
      rcases nxt_ok l[i] x.now with ⟨t, hn, ht, hge, hle⟩ | ⟨hn, ht⟩
      · rw [ht]
        repeat (first|refine zA ?_|refine zB rfl ?_|refine zC ?_|refine zD ?_|refine zE rfl ?_|refine zF ?_|refine zG ?_|refine zH ?_|refine zI ?_|refine zJ ?_|refine zK ?_|refine zL rfl ?_|refine zN rfl ?_)
        try unfold Try.a54x0
        refine wp_bind (wp_ite_t ?_)
        refine wp_call (wpC_mono (rput_ok (id := i) (t := t) h0 H (by rw [loadN_now]; omega) hle (by omega)) fun _ S4 ⟨blk2, h2, H2⟩ => ?_)
        refine wp_ret ?_
        show wp EM _ _ _
        refine wp_ret ?_
        show wp EM _ _ _
        refine wp_add64 (by omega) (by omega) (wp_ret (.inl ⟨rfl, l.length - (i + 1), by omega, i + 1, blk2, rfl, by omega, rfl, ?_, H2⟩))
        rw [e1, hn]
        exact h2
      · rw [ht]
        repeat (first|refine zA ?_|refine zB rfl ?_|refine zC ?_|refine zD ?_|refine zE rfl ?_|refine zF ?_|refine zG ?_|refine zH ?_|refine zI ?_|refine zJ ?_|refine zK ?_|refine zL rfl ?_|refine zN rfl ?_)
        try unfold Try.a54x0
        refine wp_bind (wp_ite_f (wp_ret ?_))
        show wp EM _ _ _
        refine wp_ret ?_
        show wp EM _ _ _
        refine wp_add64 (by omega) (by omega) (wp_ret (.inl ⟨rfl, l.length - (i + 1), by omega, i + 1, _, rfl, by omega, rfl, ?_, H⟩))
        rw [e1, hn]
        exact h0
    · have : i = l.length := by omega
      subst this
      repeat (first|refine zA ?_|refine zB rfl ?_|refine zC ?_|refine zD ?_|refine zE rfl ?_|refine zF ?_|refine zG ?_|refine zH ?_|refine zI ?_|refine zJ ?_|refine zK ?_|refine zL rfl ?_|refine zN rfl ?_)
      refine wp_ret (.inr ⟨by simp, ?_⟩)
      show wp EM _ _ _
      exact wp_ret ⟨rfl, rfl, blk, h, H⟩
end
end Go.Abs
namespace Go.Abs
open Go.Proofs
set_option maxRecDepth 100000
set_option linter.unusedVariables false
open Tsk (Tk tks tchk tnext timed since many TOk)
section
variable {B0 S : AH} {W : List Nat} {own E R : List Own} {ro : List Fct} {Q : Post} {k : AV → AC} {r : Nat} {x : Wl} {blk : List Own} {v : AV}
theorem rmv_notin {id : Nat} {L : List Fi} (h : ∀ g ∈ L, g.id ≠ id) : rmv id L = L := List.filter_eq_self.2 fun g hg => by simpa using h g hg
theorem rrun_ok {v : AV} {l : List Tk} {to : Int} (hv : Fct.sl v 4 (tks l) ∈ ro) (h : RRep r x blk) (H : Cx B0 W S (E ++ (blk ++ R)) ro) :
    wpC EM (.fn (.func 56) [] []) [.ptr r 0, v, I to] S fun u S' => ∃ w blk', u = .tup [w, I (runE x l to)] ∧ RRep r (runX x l to) blk' ∧ Cx B0 W S' (.sl w 2 (fis (runL x l to)) :: (E ++ (blk' ++ R))) ro := by
  refine wpC_fn (b := Try.a56) rfl rfl ?_
  unfold Try.a56
  refine wp_callV H (Tsk.refCheck_ok (l := l) (H.roSl hv)) fun S2 H => ?_
  suffices tail : ∀ S3, Cx B0 W S3 (E ++ (blk ++ R)) ro → wp EM (.op (.bin .neq (I (orI [tchk l, mayE x to])) (I 0)) fun v4 => Try.a56x15 [.ptr r 0, v, I to] [I (orI [tchk l, mayE x to])] v4) S3
      fun t vs S' => t = .ret ∧ ∃ w blk', oneOf vs = .tup [w, I (runE x l to)] ∧ RRep r (runX x l to) blk' ∧ Cx B0 W S' (.sl w 2 (fis (runL x l to)) :: (E ++ (blk' ++ R))) ro by
    refine wp_eql (fun hz => ?_) (fun hne => ?_)
    · refine wp_bind (wp_ite_t ?_)
      try unfold Try.a56x0
      refine wp_call (wpC_mono (rto_ok (to := to) h H) fun v S1 ⟨hv, H⟩ => ?_)
      subst hv
      refine wp_ret ?_
      show wp EM _ _ _
      have : orI [tchk l, mayE x to] = mayE x to := by
        unfold orI; rw [if_neg (by simpa using hz)]
        unfold orI orI; split
        · rfl
        · next h => exact (Decidable.not_not.1 h).symm
      rw [this] at tail
      exact tail _ H
    · refine wp_bind (wp_ite_f (wp_ret ?_))
      show wp EM _ _ _
      have : orI [tchk l, mayE x to] = tchk l := by unfold orI; rw [if_pos hne]
      rw [this] at tail
      exact tail _ H
  clear H
  intro S3 H
  refine wp_neq (fun hne => ?_) (fun hz => ?_)
  · try unfold Try.a56x15
    repeat (first|refine zA ?_|refine zB rfl ?_|refine zC ?_|refine zD ?_|refine zE rfl ?_|refine zF ?_|refine zG ?_|refine zH ?_|refine zI ?_|refine zJ ?_|refine zK ?_|refine zL rfl ?_|refine zN rfl ?_)
    refine wp_ret ⟨rfl, Ns, blk, ?_, ?_, ?_⟩
    · unfold runE; rw [if_pos hne]; rfl
    · unfold runX; rw [if_pos hne]; exact h
    · unfold runL; rw [if_pos hne]; exact H.addNil 2
  · have hz : orI [tchk l, mayE x to] = 0 := hz
    have hmay : mayE x to = 0 := by
      unfold orI at hz
      split at hz
      · next h1 => exact absurd hz h1
      · unfold orI orI at hz
        split at hz
        · next h2 => exact absurd hz h2
        · next h2 => exact Decidable.not_not.1 h2
    have hto : 0 ≤ to ∧ to ≤ 1099511627776 ∧ ¬ to < x.now := by
      unfold mayE at hmay
      split at hmay
      · next h1 =>
        split at hmay
        · cases hmay
        · next h2 => exact ⟨h1.1, h1.2, h2⟩
      · cases hmay
    have hsome : ∀ y out, runN l to 4097 x [] = some (y, out) → runE x l to = 0 ∧ runX x l to = ⟨to.toNat, y.L⟩ ∧ runL x l to = out := by
      intro y out he
      refine ⟨?_, ?_, ?_⟩
      · unfold runE; rw [if_neg (by simpa using hz), he]
      · unfold runX; rw [if_neg (by simpa using hz), he]
      · unfold runL; rw [if_neg (by simpa using hz), he]
    have hnone : runN l to 4097 x [] = none → runE x l to = 4 ∧ runX x l to = x ∧ runL x l to = [] := by
      intro he
      refine ⟨?_, ?_, ?_⟩
      · unfold runE; rw [if_neg (by simpa using hz), he]
      · unfold runX; rw [if_neg (by simpa using hz), he]
      · unfold runL; rw [if_neg (by simpa using hz), he]
    try unfold Try.a56x15
    repeat (first|refine zA ?_|refine zB rfl ?_|refine zC ?_|refine zD ?_|refine zE rfl ?_|refine zF ?_|refine zG ?_|refine zH ?_|refine zI ?_|refine zJ ?_|refine zK ?_|refine zL rfl ?_|refine zN rfl ?_)
    refine wp_call (wpC_mono (rcopy_ok h H) fun u S4 ⟨yp, blkY, hu, hY, H⟩ => ?_)
    subst hu
    obtain ⟨ho, vx, rfl⟩ := h
    refine wp_bind ?_
    try unfold Try.a56x12
    refine wp_loop (wpL_inv (fun n vs S1 => ∃ (y : Wl) (blkY : List Own) (u : AV) (out : List Fi), vs = [u, I 0, Ns] ∧ RRep yp y blkY ∧ n + out.length = 4096 ∧ y.now = x.now ∧ runN l to (n + 1) y out = runN l to 4097 x [] ∧ Cx B0 W S1 (.sl u 2 (fis out) :: (blkY ++ (E ++ (rOwn r x vx ++ R)))) ro) ?_ 4096 ⟨x, blkY, Ns, [], rfl, hY, rfl, rfl, rfl, H.addNil 2⟩)
    clear H hY
    rintro n vs S5 ⟨y, blkY, u, out, rfl, hY, hn, hnow, hrun, H⟩
    obtain ⟨hoy, b, rfl⟩ := hY
    have hlen := hoy.len
    have hs := Cx.rsl (E := [.sl u 2 (fis out)]) H
    repeat (first|refine zA ?_|refine zB rfl ?_|refine zC ?_|refine zD ?_|refine zE rfl ?_|refine zF ?_|refine zG ?_|refine zH ?_|refine zI ?_|refine zJ ?_|refine zK ?_|refine zL rfl ?_|refine zN rfl ?_)
    refine wp_row (j := 1) H _ (rO_row (E := [.sl u 2 (fis out)])) rfl ?_
    try unfold Try.a56x11
    refine wp_lenE hs ?_
    rw [fis_len]
    -- nothing more is due
    have fin : ∀ S, Cx B0 W S (.sl u 2 (fis out) :: (rOwn yp y b ++ (E ++ (rOwn r x vx ++ R)))) ro → runN l to 4097 x [] = some (y, out) → (∀ f ∈ y.L, to < (f.tm : Int)) → wp EM (Try.a56x14 [.ptr r 0, v, I to] (.ptr yp 0) [u, I 0, Ns]) S
        fun tg vs S' => tg = .ret ∧ ∃ w blk', oneOf vs = .tup [w, I (runE x l to)] ∧ RRep r (runX x l to) blk' ∧ Cx B0 W S' (.sl w 2 (fis (runL x l to)) :: (E ++ (blk' ++ R))) ro := by
      intro S H he hgt
      obtain ⟨q1, q2, q3⟩ := hsome y out he
      rw [q1, q2, q3]
      try unfold Try.a56x14
      repeat (first|refine zA ?_|refine zB rfl ?_|refine zC ?_|refine zD ?_|refine zE rfl ?_|refine zF ?_|refine zG ?_|refine zH ?_|refine zI ?_|refine zJ ?_|refine zK ?_|refine zL rfl ?_|refine zN rfl ?_)
      refine wp_row (j := 1) H _ (rO_row (E := [.sl u 2 (fis out)])) rfl ?_
      have hs := Cx.rsl (E := [.sl u 2 (fis out)]) H
      repeat (first|refine zA ?_|refine zB rfl ?_|refine zC ?_|refine zD ?_|refine zE rfl ?_|refine zF ?_|refine zG ?_|refine zH ?_|refine zI ?_|refine zJ ?_|refine zK ?_|refine zL rfl ?_|refine zN rfl ?_)
      have H : Cx B0 W S ((.sl u 2 (fis out) :: .obj yp (.row [I (y.now : Int), b]) :: .sl b 2 (fis y.L) :: E) ++ (rOwn r x vx ++ R)) ro := H
      refine wp_set1 (c := [I (x.now : Int), vx]) (j := 1) (v := b) H _ rO_row (by simp) (slOk_odd1 hs).1 (slOk_odd1 hs).2 fun S7 H7 => ?_
      rw [app_set] at H7
      have H7 : Cx B0 W S7 ((.sl u 2 (fis out) :: .obj yp (.row [I (y.now : Int), b]) :: .sl b 2 (fis y.L) :: E) ++ (.obj r (.row [I (x.now : Int), b]) :: .sl vx 2 (fis x.L) :: R)) ro := H7
      try unfold Try.a56x13
      repeat (first|refine zA ?_|refine zB rfl ?_|refine zC ?_|refine zD ?_|refine zE rfl ?_|refine zF ?_|refine zG ?_|refine zH ?_|refine zI ?_|refine zJ ?_|refine zK ?_|refine zL rfl ?_|refine zN rfl ?_)
      refine wp_set1 (c := [I (x.now : Int), b]) (j := 0) (v := I to) H7 ((Own.sl u 2 (fis out) :: .obj yp (.row [I (y.now : Int), b]) :: .sl b 2 (fis y.L) :: E).length + 0) (app_get rfl) (by simp) rfl rfl fun S8 H8 => ?_
      rw [app_set] at H8
      have H9 := H8.dropAt 1
      have H9 : Cx B0 W S8 (.sl u 2 (fis out) :: .sl b 2 (fis y.L) :: (E ++ (.obj r (.row [I to, b]) :: .sl vx 2 (fis x.L) :: R))) ro := H9
      have H10 : Cx B0 W S8 (.sl b 2 (fis y.L) :: ((.sl u 2 (fis out) :: E) ++ (.obj r (.row [I to, b]) :: .sl vx 2 (fis x.L) :: R))) ro := H9.perm (List.Perm.swap _ _ _)
      have H11 := H10.swapR
      obtain ⟨t, rfl⟩ : ∃ t : Nat, to = (t : Int) := ⟨to.toNat, by omega⟩
      refine wp_ret ⟨rfl, u, _, rfl, ⟨?_, b, rfl⟩, H11⟩
      exact hoy.left (by omega) (List.Sublist.refl _) fun f hf => by have := hgt f hf; omega
    cases hL : y.L with
    | nil =>
      refine wp_gtr_f (by simp) ?_
      repeat (first|refine zA ?_|refine zB rfl ?_|refine zC ?_|refine zD ?_|refine zE rfl ?_|refine zF ?_|refine zG ?_|refine zH ?_|refine zI ?_|refine zJ ?_|refine zK ?_|refine zL rfl ?_|refine zN rfl ?_)
      try unfold Try.a56x10
      repeat (first|refine zA ?_|refine zB rfl ?_|refine zC ?_|refine zD ?_|refine zE rfl ?_|refine zF ?_|refine zG ?_|refine zH ?_|refine zI ?_|refine zJ ?_|refine zK ?_|refine zL rfl ?_|refine zN rfl ?_)
      try unfold Try.a56x9
      repeat (first|refine zA ?_|refine zB rfl ?_|refine zC ?_|refine zD ?_|refine zE rfl ?_|refine zF ?_|refine zG ?_|refine zH ?_|refine zI ?_|refine zJ ?_|refine zK ?_|refine zL rfl ?_|refine zN rfl ?_)
      refine wp_ret (.inr ⟨by simp, ?_⟩)
      refine fin _ H ?_ (by rw [hL]; simp)
      rw [← hrun]
      conv => lhs; unfold runN
      rw [hL]
    | cons f L' =>
      have hs1 := hs
      rw [hL] at hs1
      have hfis : (fis (f :: L'))[0]? = some f.cs := rfl
      refine wp_gtr_t (by simp <;> omega) ?_
      repeat (first|refine zA ?_|refine zB rfl ?_|refine zC ?_|refine zD ?_|refine zE rfl ?_|refine zF ?_|refine zG ?_|refine zH ?_|refine zI ?_|refine zJ ?_|refine zK ?_|refine zL rfl ?_|refine zN rfl ?_)
      refine wp_row (j := 1) H _ (rO_row (E := [.sl u 2 (fis out)])) rfl ?_
      try unfold Try.a56x10
      repeat (first|refine zA ?_|refine zB rfl ?_|refine zC ?_|refine zD ?_|refine zE rfl ?_|refine zF ?_|refine zG ?_|refine zH ?_|refine zI ?_|refine zJ ?_|refine zK ?_|refine zL rfl ?_|refine zN rfl ?_)
      refine wp_elem (i := 0) hs1 hfis fun q qo hp => ?_
      repeat (first|refine zA ?_|refine zB rfl ?_|refine zC ?_|refine zD ?_|refine zE rfl ?_|refine zF ?_|refine zG ?_|refine zH ?_|refine zI ?_|refine zJ ?_|refine zK ?_|refine zL rfl ?_|refine zN rfl ?_)
      refine wp_loadF (j := 1) hp rfl ?_
      repeat (first|refine zA ?_|refine zB rfl ?_|refine zC ?_|refine zD ?_|refine zE rfl ?_|refine zF ?_|refine zG ?_|refine zH ?_|refine zI ?_|refine zJ ?_|refine zK ?_|refine zL rfl ?_|refine zN rfl ?_)
      try unfold Try.a56x9
      refine wp_leq (fun hle => ?_) (fun hgt => ?_)
      rotate_left
      · repeat (first|refine zA ?_|refine zB rfl ?_|refine zC ?_|refine zD ?_|refine zE rfl ?_|refine zF ?_|refine zG ?_|refine zH ?_|refine zI ?_|refine zJ ?_|refine zK ?_|refine zL rfl ?_|refine zN rfl ?_)
        refine wp_ret (.inr ⟨by simp, ?_⟩)
        refine fin _ H ?_ ?_
        · rw [← hrun]
          conv => lhs; unfold runN
          rw [hL]
          simp only
          rw [if_neg (by omega)]
        · intro g hg
          rw [hL] at hg
          rcases List.mem_cons.1 hg with rfl | hg
          · exact hgt
          · have := hoy.ord
            rw [hL] at this
            have := (List.pairwise_cons.1 this).1 g hg
            rcases this with h | h <;> omega
      · repeat (first|refine zA ?_|refine zB rfl ?_|refine zC ?_|refine zD ?_|refine zE rfl ?_|refine zF ?_|refine zG ?_|refine zH ?_|refine zI ?_|refine zJ ?_|refine zK ?_|refine zL rfl ?_|refine zN rfl ?_)
        have hrun2 : runN l to (n + 1) y out = if n = 0 then none else runN l to n (again l f ⟨y.now, L'⟩) (out ++ [f]) := by
          conv => lhs; unfold runN
          rw [hL]
          simp only [hle, if_true]
        refine wp_bind ?_
        refine wp_lenE (ownSl_ok (H.oh _ (List.Mem.head _))) ?_
        rw [fis_len]
        try unfold Try.a56x8
        refine wp_eql (fun hfull => ?_) (fun hfull => ?_)
        · have hn0 : n = 0 := by omega
          rw [hrun2, if_pos hn0] at hrun
          obtain ⟨q1, q2, q3⟩ := hnone hrun.symm
          rw [q1, q2, q3]
          repeat (first|refine zA ?_|refine zB rfl ?_|refine zC ?_|refine zD ?_|refine zE rfl ?_|refine zF ?_|refine zG ?_|refine zH ?_|refine zI ?_|refine zJ ?_|refine zK ?_|refine zL rfl ?_|refine zN rfl ?_)
          refine wp_ret (.inr ⟨by simp, rfl, Ns, _, rfl, ⟨ho, vx, rfl⟩, ?_⟩)
          have s1 : (E ++ (rOwn r x vx ++ R)).Sublist (.sl u 2 (fis out) :: (rOwn yp y b ++ (E ++ (rOwn r x vx ++ R)))) := List.Sublist.cons _ (List.sublist_append_right _ _)
          exact (H.dropOwn s1).addNil 2
        · have hn0 : n ≠ 0 := by omega
          rw [hrun2, if_neg hn0] at hrun
          repeat (first|refine zA ?_|refine zB rfl ?_|refine zC ?_|refine zD ?_|refine zE rfl ?_|refine zF ?_|refine zG ?_|refine zH ?_|refine zI ?_|refine zJ ?_|refine zK ?_|refine zL rfl ?_|refine zN rfl ?_)
          refine wp_row (j := 1) H _ (rO_row (E := [.sl u 2 (fis out)])) rfl ?_
          try unfold Try.a56x7
          refine wp_elem (i := 0) hs1 hfis fun q qo hp => ?_
          refine wp_loadFn (j := 0) (n := 2) hp (by show 0 + 2 ≤ 2; omega) ?_
          rw [agg2]
          refine wp_tmp2 (x := I (f.id : Int)) (y := I (f.tm : Int)) H fun p S6 H6 => ?_
          have H6 : Cx B0 W S6 (.sl u 2 (fis out) :: (rOwn yp y b ++ (E ++ (rOwn r x vx ++ R)))) (.pt p 0 f.cs :: ro) := H6
          refine wp_loada (n := 2) H6 (id := p) (off := 0) (cs := f.cs) (by repeat (first | exact List.Mem.head _ | apply List.Mem.tail)) (Nat.le_refl _) ?_
          try unfold Try.a56x6
          refine wp_push (L := fis out) (x := .agg f.cs) H6 0 rfl rfl rfl rfl (by rw [fis_len]; unfold maxBytes; omega) (by rw [fis_len]; unfold maxLenN; omega) fun u1 S7 H7 => ?_
          have e7 : fis out ++ [(AV.agg f.cs).cells] = fis (out ++ [f]) := by rw [fis_app]; rfl
          rw [e7] at H7
          have H7 : Cx B0 W S7 (.sl u1 2 (fis (out ++ [f])) :: (rOwn yp y b ++ (E ++ (rOwn r x vx ++ R)))) (.pt p 0 f.cs :: ro) := H7
          refine wp_bsl0 H7 rfl fun a S8 H8 => ?_
          repeat (first|refine zA ?_|refine zB rfl ?_|refine zC ?_|refine zD ?_|refine zE rfl ?_|refine zF ?_|refine zG ?_|refine zH ?_|refine zI ?_|refine zJ ?_|refine zK ?_|refine zL rfl ?_|refine zN rfl ?_)
          refine wp_row (j := 1) H8 _ (rO_row (E := [.sl a 2 [], .sl u1 2 (fis (out ++ [f]))])) rfl ?_
          have hs8 := Cx.rsl (E := [.sl a 2 [], .sl u1 2 (fis (out ++ [f]))]) H8
          obtain ⟨w2, e2, hw2⟩ := slOk_suffix (M := EM) (i := 1) hs8 (by rw [fis_len, hL]; simp)
          refine wp_op e2 ?_
          have hfd : (fis y.L).drop 1 = fis L' := by rw [hL]; rfl
          rw [hfd] at hw2
          have hL'len : L'.length + 1 = y.L.length := by rw [hL]; rfl
          try unfold Try.a56x5
          refine wp_append (N := fis L') H8 0 rfl (slOk_elems hw2) (fis_all _) (by rw [fis_len]; unfold maxBytes; simp; omega) (by rw [fis_len]; unfold maxLenN; simp; omega) fun b1 S9 H9 => ?_
          have H9 : Cx B0 W S9 (.sl b1 2 (fis L') :: ([.sl u1 2 (fis (out ++ [f]))] ++ (rOwn yp y b ++ (E ++ (rOwn r x vx ++ R))))) (.pt p 0 f.cs :: ro) := H9
          repeat (first|refine zA ?_|refine zB rfl ?_|refine zC ?_|refine zD ?_|refine zE rfl ?_|refine zF ?_|refine zG ?_|refine zH ?_|refine zI ?_|refine zJ ?_|refine zK ?_|refine zL rfl ?_|refine zN rfl ?_)
          refine wp_setL (L' := L') H9 fun S10 H10 => ?_
          repeat (first|refine zA ?_|refine zB rfl ?_|refine zC ?_|refine zD ?_|refine zE rfl ?_|refine zF ?_|refine zG ?_|refine zH ?_|refine zI ?_|refine zJ ?_|refine zK ?_|refine zL rfl ?_|refine zN rfl ?_)
          refine wp_load1 (id := p) (j := 0) H10 (cs := f.cs) (by repeat (first | exact List.Mem.head _ | apply List.Mem.tail)) rfl ?_
          try unfold Try.a56x4
          refine wp_len H10 (List.mem_cons_of_mem _ hv) ?_
          rw [Tsk.tks_len]
          have hot : Wl.Ok ⟨y.now, L'⟩ := hoy.tail hL
          have done : ∀ (S : AH) (y' : Wl) (blk4 : List Own), again l f ⟨y.now, L'⟩ = y' → RRep yp y' blk4 → Cx B0 W S ([.sl u1 2 (fis (out ++ [f]))] ++ (blk4 ++ (E ++ (rOwn r x vx ++ R)))) (.pt p 0 f.cs :: ro) → y'.now = x.now →
              ∃ m', m' < n ∧ ∃ (y : Wl) (blkY : List Own) (u : AV) (o : List Fi), [u1, I 0, Ns] = [u, I 0, Ns] ∧ RRep yp y blkY ∧ m' + o.length = 4096 ∧ y.now = x.now ∧ runN l to (m' + 1) y o = runN l to 4097 x [] ∧ Cx B0 W S (.sl u 2 (fis o) :: (blkY ++ (E ++ (rOwn r x vx ++ R)))) ro := by
            intro S y' blk4 hy h4 H4 hnow4
            refine ⟨n - 1, by omega, y', blk4, u1, out ++ [f], rfl, h4, by simp; omega, hnow4, ?_, H4.tl⟩
            rw [show n - 1 + 1 = n by omega, ← hy]; exact hrun
          refine wp_lss (fun hlt => ?_) (fun hge => ?_)
          rotate_left
          · refine wp_bind (wp_ite_f (wp_ret ?_))
            show wp EM _ _ _
            refine wp_ret ?_
            show wp EM _ _ _
            refine wp_ret (.inl ⟨rfl, done _ ⟨y.now, L'⟩ _ ?_ ⟨hot, b1, rfl⟩ H10 hnow⟩)
            unfold again
            rw [List.getElem?_eq_none (by omega)]
          · have hlt : f.id < l.length := by omega
            have hag : again l f ⟨y.now, L'⟩ = match nxt l[f.id] ((f.tm : Int) + 1) with | some a => ⟨y.now, ins ⟨f.id, a⟩ L'⟩ | none => ⟨y.now, L'⟩ := by
              unfold again
              rw [List.getElem?_eq_getElem hlt]
              rfl
            have hftm := hoy.le f (by rw [hL]; simp)
            have hfge := hoy.ge f (by rw [hL]; simp)
            have hfid := hoy.id f (by rw [hL]; simp)
            refine wp_bind (wp_ite_t ?_)
            try unfold Try.a56x3
            repeat (first|refine zA ?_|refine zB rfl ?_|refine zC ?_|refine zD ?_|refine zE rfl ?_|refine zF ?_|refine zG ?_|refine zH ?_|refine zI ?_|refine zJ ?_|refine zK ?_|refine zL rfl ?_|refine zN rfl ?_)
            refine wp_load1 (id := p) (j := 0) H10 (cs := f.cs) (by repeat (first | exact List.Mem.head _ | apply List.Mem.tail)) rfl ?_
            refine wp_saddr (i := f.id) H10 (List.mem_cons_of_mem _ hv) (Tsk.tks_get hlt) fun qt qto H11 => ?_
            refine wp_loada (n := 4) H11 (cs := l[f.id].cs) (by repeat (first | exact List.Mem.head _ | apply List.Mem.tail)) (Nat.le_refl _) ?_
            replace H11 := H11.tl
            repeat (first|refine zA ?_|refine zB rfl ?_|refine zC ?_|refine zD ?_|refine zE rfl ?_|refine zF ?_|refine zG ?_|refine zH ?_|refine zI ?_|refine zJ ?_|refine zK ?_|refine zL rfl ?_|refine zN rfl ?_)
            refine wp_load1 (id := p) (j := 1) H11 (cs := f.cs) (by repeat (first | exact List.Mem.head _ | apply List.Mem.tail)) rfl ?_
            try unfold Try.a56x2
            refine wp_add64 (by omega) (by omega) ?_
            refine wp_callV H11 (Tsk.refNext_ok (x := l[f.id]) (now := (f.tm : Int) + 1)) fun S12 H12 => ?_
            rcases nxt_ok l[f.id] ((f.tm : Int) + 1) with ⟨t, hn1, ht, hge1, hle1⟩ | ⟨hn1, ht⟩
            · rw [ht]
              repeat (first|refine zA ?_|refine zB rfl ?_|refine zC ?_|refine zD ?_|refine zE rfl ?_|refine zF ?_|refine zG ?_|refine zH ?_|refine zI ?_|refine zJ ?_|refine zK ?_|refine zL rfl ?_|refine zN rfl ?_)
              try unfold Try.a56x1
              refine wp_bind (wp_ite_t ?_)
              repeat (first|refine zA ?_|refine zB rfl ?_|refine zC ?_|refine zD ?_|refine zE rfl ?_|refine zF ?_|refine zG ?_|refine zH ?_|refine zI ?_|refine zJ ?_|refine zK ?_|refine zL rfl ?_|refine zN rfl ?_)
              refine wp_load1 (id := p) (j := 0) H12 (cs := f.cs) (by repeat (first | exact List.Mem.head _ | apply List.Mem.tail)) rfl ?_
              refine wp_call (wpC_mono (rput_ok (id := f.id) (t := t) (x := ⟨y.now, L'⟩) ⟨hot, b1, rfl⟩ H12 (by show y.now ≤ t; omega) hle1 hfid) fun _ S13 ⟨blk5, h5, H13⟩ => ?_)
              have eput : Wl.put ⟨y.now, L'⟩ ⟨f.id, t⟩ = ⟨y.now, ins ⟨f.id, t⟩ L'⟩ := by
                unfold Wl.put
                rw [rmv_notin (notin_tail hoy hL)]
              rw [eput] at h5
              refine wp_ret ?_
              show wp EM _ _ _
              refine wp_ret ?_
              show wp EM _ _ _
              refine wp_ret ?_
              show wp EM _ _ _
              exact wp_ret (.inl ⟨rfl, done _ ⟨y.now, ins ⟨f.id, t⟩ L'⟩ _ (by rw [hag, hn1]) h5 H13 hnow⟩)
            · rw [ht]
              repeat (first|refine zA ?_|refine zB rfl ?_|refine zC ?_|refine zD ?_|refine zE rfl ?_|refine zF ?_|refine zG ?_|refine zH ?_|refine zI ?_|refine zJ ?_|refine zK ?_|refine zL rfl ?_|refine zN rfl ?_)
              try unfold Try.a56x1
              refine wp_bind (wp_ite_f (wp_ret ?_))
              show wp EM _ _ _
              refine wp_ret ?_
              show wp EM _ _ _
              refine wp_ret ?_
              show wp EM _ _ _
              exact wp_ret (.inl ⟨rfl, done _ ⟨y.now, L'⟩ _ (by rw [hag, hn1]) ⟨hot, b1, rfl⟩ H12 hnow⟩)
end
end Go.Abs
namespace Go.Abs
open Go.Proofs
set_option maxRecDepth 100000
set_option linter.unusedVariables false
open Tsk (Tk tks tchk tnext timed since many TOk)
theorem wp_eqbSelf {S : AH} {Q : Post} {k : AV → AC} {b : Bool} (h : wp EM (k (B true)) S Q) : wp EM (.op (.eq 4 false (B b) (B b)) k) S Q := wp_op (e_eqb undB) (by
  cases b <;> exact h)
theorem typR : typc EM.P 29 = 1 := by kernel_rfl
/-- what is done: which, of which ID, at which time -/
structure Ac where
  what : Int
  id : Int
  tm : Int
def Ac.cs (a : Ac) : List AV := [I a.what, I a.id, I a.tm]
def acs (l : List Ac) : List (List AV) := l.map Ac.cs
theorem acs_len (l : List Ac) : (acs l).length = l.length := List.length_map ..
theorem acs_get {l : List Ac} {i : Nat} (h : i < l.length) : (acs l)[i]? = some l[i].cs := by simp [acs, h]
theorem runN_len {l : List Tk} {to : Int} : ∀ (n : Nat) {x y : Wl} {out o : List Fi}, runN l to n x out = some (y, o) → o.length ≤ out.length + n
  | 0, x, y, out, o, h => by unfold runN at h; cases h
  | n + 1, x, y, out, o, h => by
    unfold runN at h
    split at h
    · cases h; omega
    · split at h
      · split at h
        · cases h
        · have := runN_len n h
          simp at this; omega
      · cases h; omega
theorem runL_len {x : Wl} {l : List Tk} {to : Int} : (runL x l to).length ≤ 4097 := by
  unfold runL
  split
  · simp
  · split
    · next h => have := runN_len _ h; simpa using this
    · simp
theorem tickL_len {x : Wl} (h : x.Ok) {to : Int} : (tickL x to).length ≤ 256 := by
  unfold tickL
  split
  · exact Nat.le_trans (List.length_filter_le ..) h.len
  · simp
section
variable {B0 S : AH} {W : List Nat} {own E R A : List Own} {ro : List Fct} {Q : Post} {k : AV → AC} {r w : Nat} {x : Wl} {blk blkR : List Own} {v : AV}
theorem Cx.asc (H : Cx B0 W S (E ++ (A ++ R)) ro) : Cx B0 W S ((E ++ A) ++ R) ro := by rw [List.append_assoc]; exact H
theorem Cx.csa (H : Cx B0 W S ((E ++ A) ++ R) ro) : Cx B0 W S (E ++ (A ++ R)) ro := by rw [List.append_assoc] at H; exact H
theorem Cx.freezeSl (H : Cx B0 W S own ro) {i es : Nat} {u : AV} {L : List (List AV)} (hi : own[i]? = some (.sl u es L)) : Cx B0 W S (own.eraseIdx i) (.sl u es L :: ro) := by
  have hmem := List.mem_of_getElem? hi
  have hsub : ∀ x ∈ own.eraseIdx i, x ∈ own := fun x hx => List.mem_of_mem_eraseIdx hx
  have K : Cx B0 W S (own.eraseIdx i) ro := H.dropOwn (List.eraseIdx_sublist _ _)
  refine K.addRo (ownSl_ok (H.oh _ hmem)) fun j hj => ⟨(H.oi _ hmem j hj).1, fun x hx hj2 => ?_⟩
  have hj : j ∈ (Own.sl u es L).ids := hj
  obtain ⟨m, hm⟩ := List.getElem?_of_mem hx
  have hp := H.od
  rw [List.pairwise_iff_getElem] at hp
  obtain ⟨hi1, hi2⟩ := List.getElem?_eq_some_iff.1 hi
  rw [List.getElem?_eraseIdx] at hm
  split at hm
  · rename_i hlt
    obtain ⟨hm1, hm2⟩ := List.getElem?_eq_some_iff.1 hm
    exact hp m i hm1 hi1 hlt j (by rw [hm2]; exact hj2) (by rw [hi2]; exact hj)
  · rename_i hge
    obtain ⟨hm1, hm2⟩ := List.getElem?_eq_some_iff.1 hm
    exact hp i (m + 1) hi1 hm1 (by omega) j (by rw [hi2]; exact hj) (by rw [hm2]; exact hj2)
/-- two lists that are the same -/
theorem wp_same {a b : AV} {L : List Fi} {n m : Nat} (H : Cx B0 W S own ro) (ha : own[n]? = some (.sl a 2 (fis L))) (hb : own[m]? = some (.sl b 2 (fis L))) (hl : L.length < 1000000) (h : ∀ S1, Cx B0 W S1 own ro → wp EM (k (B true)) S1 Q) :
    wp EM (.call (.fn (.func 51) [] []) [a, b] k) S Q :=
  wp_callV H (sameF_ok (H.ownSl ha) (H.ownSl hb) hl) h
theorem overF_ok {S : AH} {v : AV} {L : List (List AV)} (h : slW S v 2 L) (hid : ∀ id ∈ vids v, id < S.next) (hl : L.length ≤ 100000) : wpC EM (.fn (.func 52) [] []) [v] S fun _ S' => Turned S v 2 L.length S' :=
  over_ok (mk := fun k => .op (.build [(I 0), (I 0)] [(0, 1, (I (-77)))]) k) (y := .agg [I (-77), I 0]) rfl rfl (fun h => wp_op (v := .agg [I (-77), I 0]) rfl h) rfl rfl h hid (by omega)
theorem wp_over {a : AV} {L : List (List AV)} (n : Nat) (H : Cx B0 W S own ro) (ha : own[n]? = some (.sl a 2 L)) (hl : L.length ≤ 100000) (h : ∀ u S1 L', Cx B0 W S1 (own.set n (.sl a 2 L')) ro → wp EM (k u) S1 Q) :
    wp EM (.call (.fn (.func 52) [] []) [a] k) S Q :=
  wp_callT H n ha (overF_ok (H.oh _ (List.mem_of_getElem? ha)) (fun id hid => (H.oi _ (List.mem_of_getElem? ha) id hid).1) hl) h
/-- an act is answered alike -/
theorem acts_ok {v : AV} {l : List Tk} {a : Ac} (hv : Fct.sl v 4 (tks l) ∈ ro) (h : WRep w x blk) (hr : RRep r x blkR) (H : Cx B0 W S (E ++ (blk ++ (blkR ++ R))) ro) :
    wpC EM (.fn (.func 14) [] []) [.ptr w 0, .ptr r 0, v, .agg a.cs] S fun u S' => u = B true ∧ ∃ y blk' blkR', WRep w y blk' ∧ RRep r y blkR' ∧ Cx B0 W S' (E ++ (blk' ++ (blkR' ++ R))) ro := by
  refine wpC_fn (b := Try.a14) rfl rfl ?_
  unfold Try.a14
  refine wp_box H rfl fun p S1 H => ?_
  have H : Cx B0 W S1 (E ++ (blk ++ (blkR ++ R))) (.pt p 0 a.cs :: ro) := H
  have hv1 : Fct.sl v 4 (tks l) ∈ Fct.pt p 0 a.cs :: ro := List.mem_cons_of_mem _ hv
  repeat (first|refine zA ?_|refine zB rfl ?_|refine zC ?_|refine zD ?_|refine zE rfl ?_|refine zF ?_|refine zG ?_|refine zH ?_|refine zI ?_|refine zJ ?_|refine zK ?_|refine zL rfl ?_|refine zN rfl ?_)
  refine wp_load1 (id := p) (j := 0) H (cs := a.cs) (by repeat (first | exact List.Mem.head _ | apply List.Mem.tail)) rfl ?_
  refine wp_bind ?_
  try unfold Try.a14x13
  refine wp_eql (fun h0 => ?_) (fun h0 => ?_)
  · -- Set
    repeat (first|refine zA ?_|refine zB rfl ?_|refine zC ?_|refine zD ?_|refine zE rfl ?_|refine zF ?_|refine zG ?_|refine zH ?_|refine zI ?_|refine zJ ?_|refine zK ?_|refine zL rfl ?_|refine zN rfl ?_)
    refine wp_load1 (id := p) (j := 1) H (cs := a.cs) (by repeat (first | exact List.Mem.head _ | apply List.Mem.tail)) rfl ?_
    repeat (first|refine zA ?_|refine zB rfl ?_|refine zC ?_|refine zD ?_|refine zE rfl ?_|refine zF ?_|refine zG ?_|refine zH ?_|refine zI ?_|refine zJ ?_|refine zK ?_|refine zL rfl ?_|refine zN rfl ?_)
    try unfold Try.a14x1
    refine wp_load1 (id := p) (j := 2) H (cs := a.cs) (by repeat (first | exact List.Mem.head _ | apply List.Mem.tail)) rfl ?_
    repeat (first|refine zA ?_|refine zB rfl ?_|refine zC ?_|refine zD ?_|refine zE rfl ?_|refine zF ?_|refine zG ?_|refine zH ?_|refine zI ?_|refine zJ ?_|refine zK ?_|refine zL rfl ?_|refine zN rfl ?_)
    refine wp_load1 (id := p) (j := 1) H (cs := a.cs) (by repeat (first | exact List.Mem.head _ | apply List.Mem.tail)) rfl ?_
    repeat (first|refine zA ?_|refine zB rfl ?_|refine zC ?_|refine zD ?_|refine zE rfl ?_|refine zF ?_|refine zG ?_|refine zH ?_|refine zI ?_|refine zJ ?_|refine zK ?_|refine zL rfl ?_|refine zN rfl ?_)
    refine wp_load1 (id := p) (j := 2) H (cs := a.cs) (by repeat (first | exact List.Mem.head _ | apply List.Mem.tail)) rfl ?_
    refine wp_call (wpC_mono (set_ok (id := a.id) (at' := a.tm) h H) fun u S2 ⟨hu, blk1, h1, H1⟩ => ?_)
    subst hu
    try unfold Try.a14x0
    refine wp_chk1 (id := p) (off := 0) (j := 1) (cs := a.cs) H1 (by repeat (first | exact List.Mem.head _ | apply List.Mem.tail)) rfl beq_num ?_
    refine wp_chk1 (id := p) (off := 0) (j := 2) (cs := a.cs) H1 (by repeat (first | exact List.Mem.head _ | apply List.Mem.tail)) rfl beq_num ?_
    refine wp_call (wpC_mono (rset_ok (id := a.id) (at' := a.tm) hr H1.asc) fun u S3 ⟨hu, blk2, h2, H2⟩ => ?_)
    subst hu
    refine wp_eql_t rfl ?_
    exact wp_ret ⟨rfl, rfl, _, blk1, blk2, h1, h2, H2.csa.tl⟩
  repeat (first|refine zA ?_|refine zB rfl ?_|refine zC ?_|refine zD ?_|refine zE rfl ?_|refine zF ?_|refine zG ?_|refine zH ?_|refine zI ?_|refine zJ ?_|refine zK ?_|refine zL rfl ?_|refine zN rfl ?_)
  refine wp_eql (fun h0 => ?_) (fun h0 => ?_)
  · -- Drop
    repeat (first|refine zA ?_|refine zB rfl ?_|refine zC ?_|refine zD ?_|refine zE rfl ?_|refine zF ?_|refine zG ?_|refine zH ?_|refine zI ?_|refine zJ ?_|refine zK ?_|refine zL rfl ?_|refine zN rfl ?_)
    try unfold Try.a14x3
    repeat (first|refine zA ?_|refine zB rfl ?_|refine zC ?_|refine zD ?_|refine zE rfl ?_|refine zF ?_|refine zG ?_|refine zH ?_|refine zI ?_|refine zJ ?_|refine zK ?_|refine zL rfl ?_|refine zN rfl ?_)
    refine wp_load1 (id := p) (j := 1) H (cs := a.cs) (by repeat (first | exact List.Mem.head _ | apply List.Mem.tail)) rfl ?_
    repeat (first|refine zA ?_|refine zB rfl ?_|refine zC ?_|refine zD ?_|refine zE rfl ?_|refine zF ?_|refine zG ?_|refine zH ?_|refine zI ?_|refine zJ ?_|refine zK ?_|refine zL rfl ?_|refine zN rfl ?_)
    refine wp_load1 (id := p) (j := 1) H (cs := a.cs) (by repeat (first | exact List.Mem.head _ | apply List.Mem.tail)) rfl ?_
    refine wp_call (wpC_mono (drop_ok (id := a.id) h H) fun u S2 ⟨hu, blk1, h1, H1⟩ => ?_)
    subst hu
    refine wp_chk1 (id := p) (off := 0) (j := 1) (cs := a.cs) H1 (by repeat (first | exact List.Mem.head _ | apply List.Mem.tail)) rfl beq_num ?_
    try unfold Try.a14x2
    refine wp_call (wpC_mono (rdrop_ok (id := a.id) hr H1.asc) fun u S3 ⟨hu, blk2, h2, H2⟩ => ?_)
    subst hu
    refine wp_eql_t rfl ?_
    exact wp_ret ⟨rfl, rfl, _, blk1, blk2, h1, h2, H2.csa.tl⟩
  repeat (first|refine zA ?_|refine zB rfl ?_|refine zC ?_|refine zD ?_|refine zE rfl ?_|refine zF ?_|refine zG ?_|refine zH ?_|refine zI ?_|refine zJ ?_|refine zK ?_|refine zL rfl ?_|refine zN rfl ?_)
  try unfold Try.a14x12
  refine wp_eql (fun h0 => ?_) (fun h0 => ?_)
  · -- Tick
    repeat (first|refine zA ?_|refine zB rfl ?_|refine zC ?_|refine zD ?_|refine zE rfl ?_|refine zF ?_|refine zG ?_|refine zH ?_|refine zI ?_|refine zJ ?_|refine zK ?_|refine zL rfl ?_|refine zN rfl ?_)
    refine wp_load1 (id := p) (j := 2) H (cs := a.cs) (by repeat (first | exact List.Mem.head _ | apply List.Mem.tail)) rfl ?_
    refine wp_call (wpC_mono (tick_ok (to := a.tm) h H) fun u S2 ⟨t1, blk1, hu, h1, H1⟩ => ?_)
    subst hu
    try unfold Try.a14x6
    repeat (first|refine zA ?_|refine zB rfl ?_|refine zC ?_|refine zD ?_|refine zE rfl ?_|refine zF ?_|refine zG ?_|refine zH ?_|refine zI ?_|refine zJ ?_|refine zK ?_|refine zL rfl ?_|refine zN rfl ?_)
    refine wp_load1 (id := p) (j := 2) H1 (cs := a.cs) (by repeat (first | exact List.Mem.head _ | apply List.Mem.tail)) rfl ?_
    have H1' := Cx.asc (E := .sl t1 2 (fis (tickL x a.tm)) :: E) H1
    refine wp_call (wpC_mono (rtick_ok (to := a.tm) hr H1') fun u S3 ⟨t2, blk2, hu, h2, H2⟩ => ?_)
    subst hu
    have H2 : Cx B0 W S3 (.sl t2 2 (fis (tickL x a.tm)) :: .sl t1 2 (fis (tickL x a.tm)) :: (E ++ (blk1 ++ (blk2 ++ R)))) (.pt p 0 a.cs :: ro) := Cx.csa (E := .sl t2 2 (fis (tickL x a.tm)) :: .sl t1 2 (fis (tickL x a.tm)) :: E) H2
    have htl := tickL_len h.ok (to := a.tm)
    repeat (first|refine zA ?_|refine zB rfl ?_|refine zC ?_|refine zD ?_|refine zE rfl ?_|refine zF ?_|refine zG ?_|refine zH ?_|refine zI ?_|refine zJ ?_|refine zK ?_|refine zL rfl ?_|refine zN rfl ?_)
    try unfold Try.a14x5
    repeat (first|refine zA ?_|refine zB rfl ?_|refine zC ?_|refine zD ?_|refine zE rfl ?_|refine zF ?_|refine zG ?_|refine zH ?_|refine zI ?_|refine zJ ?_|refine zK ?_|refine zL rfl ?_|refine zN rfl ?_)
    refine wp_same (n := 1) (m := 0) H2 rfl rfl (by omega) fun S4 H3 => ?_
    repeat (first|refine zA ?_|refine zB rfl ?_|refine zC ?_|refine zD ?_|refine zE rfl ?_|refine zF ?_|refine zG ?_|refine zH ?_|refine zI ?_|refine zJ ?_|refine zK ?_|refine zL rfl ?_|refine zN rfl ?_)
    refine wp_eql_t rfl ?_
    repeat (first|refine zA ?_|refine zB rfl ?_|refine zC ?_|refine zD ?_|refine zE rfl ?_|refine zF ?_|refine zG ?_|refine zH ?_|refine zI ?_|refine zJ ?_|refine zK ?_|refine zL rfl ?_|refine zN rfl ?_)
    try unfold Try.a14x4
    refine wp_over 1 H3 rfl (by rw [fis_len]; omega) fun u S5 L' H4 => ?_
    have H5 : Cx B0 W S5 (E ++ (blk1 ++ (blk2 ++ R))) (.pt p 0 a.cs :: ro) := (H4.dropAt 0).dropAt 0
    exact wp_ret ⟨rfl, rfl, _, blk1, blk2, h1, h2, H5.tl⟩
  repeat (first|refine zA ?_|refine zB rfl ?_|refine zC ?_|refine zD ?_|refine zE rfl ?_|refine zF ?_|refine zG ?_|refine zH ?_|refine zI ?_|refine zJ ?_|refine zK ?_|refine zL rfl ?_|refine zN rfl ?_)
  refine wp_eql (fun h0 => ?_) (fun h0 => ?_)
  · -- Load
    repeat (first|refine zA ?_|refine zB rfl ?_|refine zC ?_|refine zD ?_|refine zE rfl ?_|refine zF ?_|refine zG ?_|refine zH ?_|refine zI ?_|refine zJ ?_|refine zK ?_|refine zL rfl ?_|refine zN rfl ?_)
    try unfold Try.a14x7
    refine wp_call (wpC_mono (load_ok (l := l) hv1 h H) fun u S2 ⟨hu, blk1, h1, H1⟩ => ?_)
    subst hu
    refine wp_call (wpC_mono (rload_ok (l := l) hv1 hr H1.asc) fun u S3 ⟨hu, blk2, h2, H2⟩ => ?_)
    subst hu
    refine wp_eql_t rfl ?_
    exact wp_ret ⟨rfl, rfl, _, blk1, blk2, h1, h2, H2.csa.tl⟩
  repeat (first|refine zA ?_|refine zB rfl ?_|refine zC ?_|refine zD ?_|refine zE rfl ?_|refine zF ?_|refine zG ?_|refine zH ?_|refine zI ?_|refine zJ ?_|refine zK ?_|refine zL rfl ?_|refine zN rfl ?_)
  try unfold Try.a14x11
  refine wp_eql (fun h0 => ?_) (fun h0 => ?_)
  · -- Run
    repeat (first|refine zA ?_|refine zB rfl ?_|refine zC ?_|refine zD ?_|refine zE rfl ?_|refine zF ?_|refine zG ?_|refine zH ?_|refine zI ?_|refine zJ ?_|refine zK ?_|refine zL rfl ?_|refine zN rfl ?_)
    refine wp_load1 (id := p) (j := 2) H (cs := a.cs) (by repeat (first | exact List.Mem.head _ | apply List.Mem.tail)) rfl ?_
    refine wp_call (wpC_mono (run_ok (l := l) (to := a.tm) hv1 h H) fun u S2 ⟨t1, blk1, hu, h1, H1⟩ => ?_)
    subst hu
    try unfold Try.a14x10
    repeat (first|refine zA ?_|refine zB rfl ?_|refine zC ?_|refine zD ?_|refine zE rfl ?_|refine zF ?_|refine zG ?_|refine zH ?_|refine zI ?_|refine zJ ?_|refine zK ?_|refine zL rfl ?_|refine zN rfl ?_)
    refine wp_load1 (id := p) (j := 2) H1 (cs := a.cs) (by repeat (first | exact List.Mem.head _ | apply List.Mem.tail)) rfl ?_
    have H1' := Cx.asc (E := .sl t1 2 (fis (runL x l a.tm)) :: E) H1
    refine wp_call (wpC_mono (rrun_ok (l := l) (to := a.tm) hv1 hr H1') fun u S3 ⟨t2, blk2, hu, h2, H2⟩ => ?_)
    subst hu
    have H2 : Cx B0 W S3 (.sl t2 2 (fis (runL x l a.tm)) :: .sl t1 2 (fis (runL x l a.tm)) :: (E ++ (blk1 ++ (blk2 ++ R)))) (.pt p 0 a.cs :: ro) := Cx.csa (E := .sl t2 2 (fis (runL x l a.tm)) :: .sl t1 2 (fis (runL x l a.tm)) :: E) H2
    have htl := runL_len (x := x) (l := l) (to := a.tm)
    repeat (first|refine zA ?_|refine zB rfl ?_|refine zC ?_|refine zD ?_|refine zE rfl ?_|refine zF ?_|refine zG ?_|refine zH ?_|refine zI ?_|refine zJ ?_|refine zK ?_|refine zL rfl ?_|refine zN rfl ?_)
    try unfold Try.a14x9
    repeat (first|refine zA ?_|refine zB rfl ?_|refine zC ?_|refine zD ?_|refine zE rfl ?_|refine zF ?_|refine zG ?_|refine zH ?_|refine zI ?_|refine zJ ?_|refine zK ?_|refine zL rfl ?_|refine zN rfl ?_)
    refine wp_same (n := 1) (m := 0) H2 rfl rfl (by omega) fun S4 H3 => ?_
    repeat (first|refine zA ?_|refine zB rfl ?_|refine zC ?_|refine zD ?_|refine zE rfl ?_|refine zF ?_|refine zG ?_|refine zH ?_|refine zI ?_|refine zJ ?_|refine zK ?_|refine zL rfl ?_|refine zN rfl ?_)
    refine wp_eql_t rfl ?_
    repeat (first|refine zA ?_|refine zB rfl ?_|refine zC ?_|refine zD ?_|refine zE rfl ?_|refine zF ?_|refine zG ?_|refine zH ?_|refine zI ?_|refine zJ ?_|refine zK ?_|refine zL rfl ?_|refine zN rfl ?_)
    try unfold Try.a14x8
    refine wp_over 1 H3 rfl (by rw [fis_len]; omega) fun u S5 L' H4 => ?_
    have H5 : Cx B0 W S5 (E ++ (blk1 ++ (blk2 ++ R))) (.pt p 0 a.cs :: ro) := (H4.dropAt 0).dropAt 0
    exact wp_ret ⟨rfl, rfl, _, blk1, blk2, h1, h2, H5.tl⟩
  · repeat (first|refine zA ?_|refine zB rfl ?_|refine zC ?_|refine zD ?_|refine zE rfl ?_|refine zF ?_|refine zG ?_|refine zH ?_|refine zI ?_|refine zJ ?_|refine zK ?_|refine zL rfl ?_|refine zN rfl ?_)
    refine wp_ret ?_
    show wp EM _ _ _
    exact wp_ret ⟨rfl, rfl, x, blk, blkR, h, hr, H.tl⟩
/-- a wheel stands as the document's -/
theorem stands_ok {id lv : Int} (h : WRep w x blk) (hr : RRep r x blkR) (H : Cx B0 W S (E ++ (blk ++ (blkR ++ R))) ro) :
    wpC EM (.fn (.func 15) [] []) [.ptr w 0, .ptr r 0, I id, I lv] S fun u S' => u = B true ∧ Cx B0 W S' (E ++ (blk ++ (blkR ++ R))) ro := by
  refine wpC_fn (b := Try.a15) rfl rfl ?_
  unfold Try.a15
  have hlen := h.ok.len
  obtain ⟨a1, b1, ea⟩ : ∃ (a : Int) (b : Bool), atR x id = .tup [I a, B b] := by unfold atR; split <;> exact ⟨_, _, rfl⟩
  obtain ⟨a2, a3, b2, ep⟩ : ∃ (a c : Int) (b : Bool), placeR x id = .tup [I a, I c, B b] := by unfold placeR; split <;> exact ⟨_, _, _, rfl⟩
  obtain ⟨a4, b3, en⟩ : ∃ (a : Int) (b : Bool), nextR x = .tup [I a, B b] := by unfold nextR; split <;> exact ⟨_, _, rfl⟩
  have hfl : (x.L.filter fun f => (lev x.now f.tm : Int) == lv).length ≤ x.L.length := List.length_filter_le ..
  refine wp_call (wpC_mono (at_ok (id := id) h H) fun u S2 ⟨hu, H⟩ => ?_)
  rw [hu, ea]
  repeat (first|refine zA ?_|refine zB rfl ?_|refine zC ?_|refine zD ?_|refine zE rfl ?_|refine zF ?_|refine zG ?_|refine zH ?_|refine zI ?_|refine zJ ?_|refine zK ?_|refine zL rfl ?_|refine zN rfl ?_)
  refine wp_call (wpC_mono (rat_ok (id := id) hr H.asc) fun u S2 ⟨hu, H⟩ => ?_)
  rw [hu, ea]
  replace H := H.csa
  repeat (first|refine zA ?_|refine zB rfl ?_|refine zC ?_|refine zD ?_|refine zE rfl ?_|refine zF ?_|refine zG ?_|refine zH ?_|refine zI ?_|refine zJ ?_|refine zK ?_|refine zL rfl ?_|refine zN rfl ?_)
  try unfold Try.a15x12
  refine wp_call (wpC_mono (place_ok (id := id) h H) fun u S2 ⟨hu, H⟩ => ?_)
  rw [hu, ep]
  repeat (first|refine zA ?_|refine zB rfl ?_|refine zC ?_|refine zD ?_|refine zE rfl ?_|refine zF ?_|refine zG ?_|refine zH ?_|refine zI ?_|refine zJ ?_|refine zK ?_|refine zL rfl ?_|refine zN rfl ?_)
  refine wp_call (wpC_mono (rplace_ok (id := id) hr H.asc) fun u S2 ⟨hu, H⟩ => ?_)
  rw [hu, ep]
  replace H := H.csa
  repeat (first|refine zA ?_|refine zB rfl ?_|refine zC ?_|refine zD ?_|refine zE rfl ?_|refine zF ?_|refine zG ?_|refine zH ?_|refine zI ?_|refine zJ ?_|refine zK ?_|refine zL rfl ?_|refine zN rfl ?_)
  try unfold Try.a15x11
  repeat (first|refine zA ?_|refine zB rfl ?_|refine zC ?_|refine zD ?_|refine zE rfl ?_|refine zF ?_|refine zG ?_|refine zH ?_|refine zI ?_|refine zJ ?_|refine zK ?_|refine zL rfl ?_|refine zN rfl ?_)
  refine wp_call (wpC_mono (next_ok h H) fun u S2 ⟨hu, H⟩ => ?_)
  rw [hu, en]
  repeat (first|refine zA ?_|refine zB rfl ?_|refine zC ?_|refine zD ?_|refine zE rfl ?_|refine zF ?_|refine zG ?_|refine zH ?_|refine zI ?_|refine zJ ?_|refine zK ?_|refine zL rfl ?_|refine zN rfl ?_)
  refine wp_call (wpC_mono (rnext_ok hr H.asc) fun u S2 ⟨hu, H⟩ => ?_)
  rw [hu, en]
  replace H := H.csa
  try unfold Try.a15x10
  repeat (first|refine zA ?_|refine zB rfl ?_|refine zC ?_|refine zD ?_|refine zE rfl ?_|refine zF ?_|refine zG ?_|refine zH ?_|refine zI ?_|refine zJ ?_|refine zK ?_|refine zL rfl ?_|refine zN rfl ?_)
  refine wp_call (wpC_mono (list_ok h H) fun p S2 H => ?_)
  refine wp_call (wpC_mono (level_ok (E := .sl p 2 (fis x.L) :: E) (l := lv) h H) fun q S2 H => ?_)
  refine wp_eql_t rfl ?_
  repeat (first|refine zA ?_|refine zB rfl ?_|refine zC ?_|refine zD ?_|refine zE rfl ?_|refine zF ?_|refine zG ?_|refine zH ?_|refine zI ?_|refine zJ ?_|refine zK ?_|refine zL rfl ?_|refine zN rfl ?_)
  try unfold Try.a15x9
  repeat (first|refine zA ?_|refine zB rfl ?_|refine zC ?_|refine zD ?_|refine zE rfl ?_|refine zF ?_|refine zG ?_|refine zH ?_|refine zI ?_|refine zJ ?_|refine zK ?_|refine zL rfl ?_|refine zN rfl ?_)
  refine wp_eqbSelf ?_
  repeat (first|refine zA ?_|refine zB rfl ?_|refine zC ?_|refine zD ?_|refine zE rfl ?_|refine zF ?_|refine zG ?_|refine zH ?_|refine zI ?_|refine zJ ?_|refine zK ?_|refine zL rfl ?_|refine zN rfl ?_)
  refine wp_eql_t rfl ?_
  try unfold Try.a15x8
  repeat (first|refine zA ?_|refine zB rfl ?_|refine zC ?_|refine zD ?_|refine zE rfl ?_|refine zF ?_|refine zG ?_|refine zH ?_|refine zI ?_|refine zJ ?_|refine zK ?_|refine zL rfl ?_|refine zN rfl ?_)
  refine wp_eql_t rfl ?_
  repeat (first|refine zA ?_|refine zB rfl ?_|refine zC ?_|refine zD ?_|refine zE rfl ?_|refine zF ?_|refine zG ?_|refine zH ?_|refine zI ?_|refine zJ ?_|refine zK ?_|refine zL rfl ?_|refine zN rfl ?_)
  try unfold Try.a15x7
  repeat (first|refine zA ?_|refine zB rfl ?_|refine zC ?_|refine zD ?_|refine zE rfl ?_|refine zF ?_|refine zG ?_|refine zH ?_|refine zI ?_|refine zJ ?_|refine zK ?_|refine zL rfl ?_|refine zN rfl ?_)
  refine wp_eqbSelf ?_
  repeat (first|refine zA ?_|refine zB rfl ?_|refine zC ?_|refine zD ?_|refine zE rfl ?_|refine zF ?_|refine zG ?_|refine zH ?_|refine zI ?_|refine zJ ?_|refine zK ?_|refine zL rfl ?_|refine zN rfl ?_)
  refine wp_eql_t rfl ?_
  try unfold Try.a15x6
  repeat (first|refine zA ?_|refine zB rfl ?_|refine zC ?_|refine zD ?_|refine zE rfl ?_|refine zF ?_|refine zG ?_|refine zH ?_|refine zI ?_|refine zJ ?_|refine zK ?_|refine zL rfl ?_|refine zN rfl ?_)
  refine wp_eqbSelf ?_
  repeat (first|refine zA ?_|refine zB rfl ?_|refine zC ?_|refine zD ?_|refine zE rfl ?_|refine zF ?_|refine zG ?_|refine zH ?_|refine zI ?_|refine zJ ?_|refine zK ?_|refine zL rfl ?_|refine zN rfl ?_)
  try unfold Try.a15x5
  repeat (first|refine zA ?_|refine zB rfl ?_|refine zC ?_|refine zD ?_|refine zE rfl ?_|refine zF ?_|refine zG ?_|refine zH ?_|refine zI ?_|refine zJ ?_|refine zK ?_|refine zL rfl ?_|refine zN rfl ?_)
  have H : Cx B0 W S2 ((.sl q 2 (fis (x.L.filter fun f => (lev x.now f.tm : Int) == lv)) :: .sl p 2 (fis x.L) :: E) ++ (blk ++ (blkR ++ R))) ro := H
  refine wp_call (wpC_mono (now_ok h H) fun u S2 ⟨hu, H⟩ => ?_)
  subst hu
  repeat (first|refine zA ?_|refine zB rfl ?_|refine zC ?_|refine zD ?_|refine zE rfl ?_|refine zF ?_|refine zG ?_|refine zH ?_|refine zI ?_|refine zJ ?_|refine zK ?_|refine zL rfl ?_|refine zN rfl ?_)
  refine wp_call (wpC_mono (rnow_ok hr H.asc) fun u S2 ⟨hu, H⟩ => ?_)
  subst hu
  replace H := H.csa
  repeat (first|refine zA ?_|refine zB rfl ?_|refine zC ?_|refine zD ?_|refine zE rfl ?_|refine zF ?_|refine zG ?_|refine zH ?_|refine zI ?_|refine zJ ?_|refine zK ?_|refine zL rfl ?_|refine zN rfl ?_)
  refine wp_eql_t rfl ?_
  repeat (first|refine zA ?_|refine zB rfl ?_|refine zC ?_|refine zD ?_|refine zE rfl ?_|refine zF ?_|refine zG ?_|refine zH ?_|refine zI ?_|refine zJ ?_|refine zK ?_|refine zL rfl ?_|refine zN rfl ?_)
  try unfold Try.a15x4
  repeat (first|refine zA ?_|refine zB rfl ?_|refine zC ?_|refine zD ?_|refine zE rfl ?_|refine zF ?_|refine zG ?_|refine zH ?_|refine zI ?_|refine zJ ?_|refine zK ?_|refine zL rfl ?_|refine zN rfl ?_)
  refine wp_call (wpC_mono (rlist_ok hr H.asc) fun c S2 H => ?_)
  have H : Cx B0 W S2 ((.sl c 2 (fis x.L) :: .sl q 2 (fis (x.L.filter fun f => (lev x.now f.tm : Int) == lv)) :: .sl p 2 (fis x.L) :: E) ++ (blk ++ (blkR ++ R))) ro := Cx.csa (E := .sl c 2 (fis x.L) :: .sl q 2 (fis (x.L.filter fun f => (lev x.now f.tm : Int) == lv)) :: .sl p 2 (fis x.L) :: E) H
  repeat (first|refine zA ?_|refine zB rfl ?_|refine zC ?_|refine zD ?_|refine zE rfl ?_|refine zF ?_|refine zG ?_|refine zH ?_|refine zI ?_|refine zJ ?_|refine zK ?_|refine zL rfl ?_|refine zN rfl ?_)
  refine wp_same (n := 2) (m := 0) H rfl rfl (by omega) fun S2 H => ?_
  repeat (first|refine zA ?_|refine zB rfl ?_|refine zC ?_|refine zD ?_|refine zE rfl ?_|refine zF ?_|refine zG ?_|refine zH ?_|refine zI ?_|refine zJ ?_|refine zK ?_|refine zL rfl ?_|refine zN rfl ?_)
  try unfold Try.a15x3
  repeat (first|refine zA ?_|refine zB rfl ?_|refine zC ?_|refine zD ?_|refine zE rfl ?_|refine zF ?_|refine zG ?_|refine zH ?_|refine zI ?_|refine zJ ?_|refine zK ?_|refine zL rfl ?_|refine zN rfl ?_)
  refine wp_call (wpC_mono (rlevel_ok (l := lv) hr H.asc) fun d S2 H => ?_)
  have H : Cx B0 W S2 ((.sl d 2 (fis (x.L.filter fun f => (lev x.now f.tm : Int) == lv)) :: .sl c 2 (fis x.L) :: .sl q 2 (fis (x.L.filter fun f => (lev x.now f.tm : Int) == lv)) :: .sl p 2 (fis x.L) :: E) ++ (blk ++ (blkR ++ R))) ro := Cx.csa (E := .sl d 2 (fis (x.L.filter fun f => (lev x.now f.tm : Int) == lv)) :: .sl c 2 (fis x.L) :: .sl q 2 (fis (x.L.filter fun f => (lev x.now f.tm : Int) == lv)) :: .sl p 2 (fis x.L) :: E) H
  repeat (first|refine zA ?_|refine zB rfl ?_|refine zC ?_|refine zD ?_|refine zE rfl ?_|refine zF ?_|refine zG ?_|refine zH ?_|refine zI ?_|refine zJ ?_|refine zK ?_|refine zL rfl ?_|refine zN rfl ?_)
  refine wp_same (n := 2) (m := 0) H rfl rfl (by omega) fun S2 H => ?_
  repeat (first|refine zA ?_|refine zB rfl ?_|refine zC ?_|refine zD ?_|refine zE rfl ?_|refine zF ?_|refine zG ?_|refine zH ?_|refine zI ?_|refine zJ ?_|refine zK ?_|refine zL rfl ?_|refine zN rfl ?_)
  refine wp_over 3 H rfl (by rw [fis_len]; omega) fun u S5 L1 H => ?_
  refine wp_over 2 H rfl (by rw [fis_len]; omega) fun u S6 L2 H => ?_
  have H : Cx B0 W S6 (E ++ (blk ++ (blkR ++ R))) ro := (((H.dropAt 0).dropAt 0).dropAt 0).dropAt 0
  try unfold Try.a15x2
  repeat (first|refine zA ?_|refine zB rfl ?_|refine zC ?_|refine zD ?_|refine zE rfl ?_|refine zF ?_|refine zG ?_|refine zH ?_|refine zI ?_|refine zJ ?_|refine zK ?_|refine zL rfl ?_|refine zN rfl ?_)
  refine wp_call (wpC_mono (list_ok h H) fun p S2 H => ?_)
  repeat (first|refine zA ?_|refine zB rfl ?_|refine zC ?_|refine zD ?_|refine zE rfl ?_|refine zF ?_|refine zG ?_|refine zH ?_|refine zI ?_|refine zJ ?_|refine zK ?_|refine zL rfl ?_|refine zN rfl ?_)
  refine wp_call (wpC_mono (rlist_ok hr (Cx.asc (E := .sl p 2 (fis x.L) :: E) H)) fun c S2 H => ?_)
  have H : Cx B0 W S2 ((.sl c 2 (fis x.L) :: .sl p 2 (fis x.L) :: E) ++ (blk ++ (blkR ++ R))) ro := Cx.csa (E := .sl c 2 (fis x.L) :: .sl p 2 (fis x.L) :: E) H
  repeat (first|refine zA ?_|refine zB rfl ?_|refine zC ?_|refine zD ?_|refine zE rfl ?_|refine zF ?_|refine zG ?_|refine zH ?_|refine zI ?_|refine zJ ?_|refine zK ?_|refine zL rfl ?_|refine zN rfl ?_)
  refine wp_same (n := 1) (m := 0) H rfl rfl (by omega) fun S2 H => ?_
  have H : Cx B0 W S2 (E ++ (blk ++ (blkR ++ R))) ro := (H.dropAt 0).dropAt 0
  repeat (first|refine zA ?_|refine zB rfl ?_|refine zC ?_|refine zD ?_|refine zE rfl ?_|refine zF ?_|refine zG ?_|refine zH ?_|refine zI ?_|refine zJ ?_|refine zK ?_|refine zL rfl ?_|refine zN rfl ?_)
  try unfold Try.a15x1
  repeat (first|refine zA ?_|refine zB rfl ?_|refine zC ?_|refine zD ?_|refine zE rfl ?_|refine zF ?_|refine zG ?_|refine zH ?_|refine zI ?_|refine zJ ?_|refine zK ?_|refine zL rfl ?_|refine zN rfl ?_)
  refine wp_call (wpC_mono (level_ok (l := lv) h H) fun q S2 H => ?_)
  repeat (first|refine zA ?_|refine zB rfl ?_|refine zC ?_|refine zD ?_|refine zE rfl ?_|refine zF ?_|refine zG ?_|refine zH ?_|refine zI ?_|refine zJ ?_|refine zK ?_|refine zL rfl ?_|refine zN rfl ?_)
  refine wp_call (wpC_mono (rlevel_ok (l := lv) hr (Cx.asc (E := .sl q 2 (fis (x.L.filter fun f => (lev x.now f.tm : Int) == lv)) :: E) H)) fun d S2 H => ?_)
  have H : Cx B0 W S2 ((.sl d 2 (fis (x.L.filter fun f => (lev x.now f.tm : Int) == lv)) :: .sl q 2 (fis (x.L.filter fun f => (lev x.now f.tm : Int) == lv)) :: E) ++ (blk ++ (blkR ++ R))) ro := Cx.csa (E := .sl d 2 (fis (x.L.filter fun f => (lev x.now f.tm : Int) == lv)) :: .sl q 2 (fis (x.L.filter fun f => (lev x.now f.tm : Int) == lv)) :: E) H
  try unfold Try.a15x0
  repeat (first|refine zA ?_|refine zB rfl ?_|refine zC ?_|refine zD ?_|refine zE rfl ?_|refine zF ?_|refine zG ?_|refine zH ?_|refine zI ?_|refine zJ ?_|refine zK ?_|refine zL rfl ?_|refine zN rfl ?_)
  refine wp_same (n := 1) (m := 0) H rfl rfl (by omega) fun S2 H => ?_
  have H : Cx B0 W S2 (E ++ (blk ++ (blkR ++ R))) ro := (H.dropAt 0).dropAt 0
  repeat (first|refine zA ?_|refine zB rfl ?_|refine zC ?_|refine zD ?_|refine zE rfl ?_|refine zF ?_|refine zG ?_|refine zH ?_|refine zI ?_|refine zJ ?_|refine zK ?_|refine zL rfl ?_|refine zN rfl ?_)
  exact wp_ret ⟨rfl, rfl, H⟩
def ksT : List (Option IntKind) := [some .i64, some .i64, some .i64, some .i64]
theorem strT : isStructB EM.P 106 = true := by kernel_rfl
theorem grdT : EM.P.eqGuardType EM.P.depth 106 = false := by kernel_rfl
def tvs (x : Tk) : List Value := [.int .i64 x.kind, .int .i64 x.prio, .int .i64 x.every, .int .i64 x.first]
theorem tks_scs (l : List Tk) : tks l = (l.map tvs).map scs := by
  unfold Tsk.tks
  rw [List.map_map]
  rfl
theorem copyT_ok {S : AH} {v : AV} {l : List Tk} (hv : RoSl S v 4 (tks l)) (hl : l.length ≤ 100000) : wpC EM (.fn (.func 10) [] []) [v] S fun r S' => Cx S [] S' [.sl r 4 (tks l)] [] :=
  copy_ok (es := 4) (bytes := 32) (z := [I 0, I 0, I 0, I 0]) rfl rfl rfl hv (fun x hx => by obtain ⟨y, _, rfl⟩ := List.mem_map.1 hx; rfl) (by rw [Tsk.tks_len]; unfold maxBytes; omega) (by rw [Tsk.tks_len]; unfold maxLenN; omega)
theorem sameT_ok {S : AH} {v v' : AV} {l : List Tk} (hv : RoSl S v 4 (tks l)) (hv' : RoSl S v' 4 (tks l)) (hl : l.length ≤ 100000) : wpC EM (.fn (.func 16) [] []) [v, v'] S fun r S' => r = B true ∧ Grows S S' := by
  rw [tks_scs] at hv hv'
  exact sameS_ok (t := 106) (d := 2) (ks := ksT) rfl rfl hv hv' (by rw [List.length_map]; omega) rfl rfl flatT4 (by omega) strT grdT (fun vs hvs => by obtain ⟨x, _, rfl⟩ := List.mem_map.1 hvs; rfl)
theorem wheelPlays_ok {S : AH} {v va : AV} {l : List Tk} {a : List Ac} {now pl lv : Int} (hv : RoSl S v 4 (tks l)) (ha : RoSl S va 3 (acs a)) :
    wpC EM (.fn (.func 3) [] []) [I now, v, va, I pl, I lv] S fun u _ => u = B true := by
  refine wpC_fn (b := Try.a3) rfl rfl ?_
  have H := Cx.ro2 hv ha
  unfold Try.a3
  have aw : ∀ S, wp EM (.call (.fn (.func 7) [] []) [] fun v7 => .ret .ret [v7]) S fun t vs S' => t = .ret ∧ oneOf vs = B true := fun S => wp_call (wpC_kn (v := B true) rfl (wp_ret ⟨rfl, rfl⟩))
  refine wp_len H (by repeat (first | exact List.Mem.head _ | apply List.Mem.tail)) ?_
  rw [Tsk.tks_len]
  refine wp_gtr (fun hbig => ?_) (fun hsm => ?_)
  · repeat (first|refine zA ?_|refine zB rfl ?_|refine zC ?_|refine zD ?_|refine zE rfl ?_|refine zF ?_|refine zG ?_|refine zH ?_|refine zI ?_|refine zJ ?_|refine zK ?_|refine zL rfl ?_|refine zN rfl ?_)
    try unfold Try.a3x15
    repeat (first|refine zA ?_|refine zB rfl ?_|refine zC ?_|refine zD ?_|refine zE rfl ?_|refine zF ?_|refine zG ?_|refine zH ?_|refine zI ?_|refine zJ ?_|refine zK ?_|refine zL rfl ?_|refine zN rfl ?_)
    exact aw _
  repeat (first|refine zA ?_|refine zB rfl ?_|refine zC ?_|refine zD ?_|refine zE rfl ?_|refine zF ?_|refine zG ?_|refine zH ?_|refine zI ?_|refine zJ ?_|refine zK ?_|refine zL rfl ?_|refine zN rfl ?_)
  refine wp_len H (by repeat (first | exact List.Mem.head _ | apply List.Mem.tail)) ?_
  rw [acs_len]
  repeat (first|refine zA ?_|refine zB rfl ?_|refine zC ?_|refine zD ?_|refine zE rfl ?_|refine zF ?_|refine zG ?_|refine zH ?_|refine zI ?_|refine zJ ?_|refine zK ?_|refine zL rfl ?_|refine zN rfl ?_)
  refine wp_gtr (fun hbig2 => ?_) (fun hsm2 => ?_)
  · repeat (first|refine zA ?_|refine zB rfl ?_|refine zC ?_|refine zD ?_|refine zE rfl ?_|refine zF ?_|refine zG ?_|refine zH ?_|refine zI ?_|refine zJ ?_|refine zK ?_|refine zL rfl ?_|refine zN rfl ?_)
    try unfold Try.a3x15
    repeat (first|refine zA ?_|refine zB rfl ?_|refine zC ?_|refine zD ?_|refine zE rfl ?_|refine zF ?_|refine zG ?_|refine zH ?_|refine zI ?_|refine zJ ?_|refine zK ?_|refine zL rfl ?_|refine zN rfl ?_)
    exact aw _
  repeat (first|refine zA ?_|refine zB rfl ?_|refine zC ?_|refine zD ?_|refine zE rfl ?_|refine zF ?_|refine zG ?_|refine zH ?_|refine zI ?_|refine zJ ?_|refine zK ?_|refine zL rfl ?_|refine zN rfl ?_)
  try unfold Try.a3x15
  repeat (first|refine zA ?_|refine zB rfl ?_|refine zC ?_|refine zD ?_|refine zE rfl ?_|refine zF ?_|refine zG ?_|refine zH ?_|refine zI ?_|refine zJ ?_|refine zK ?_|refine zL rfl ?_|refine zN rfl ?_)
  refine wp_call (wpC_mono (new_ok H) fun u S1 q => ?_)
  rcases q with ⟨hn, w, blk, rfl, h, H⟩ | ⟨hn, rfl, H⟩
  rotate_left
  · -- there is none
    repeat (first|refine zA ?_|refine zB rfl ?_|refine zC ?_|refine zD ?_|refine zE rfl ?_|refine zF ?_|refine zG ?_|refine zH ?_|refine zI ?_|refine zJ ?_|refine zK ?_|refine zL rfl ?_|refine zN rfl ?_)
    refine wp_call (wpC_mono (rnew_ok H) fun u S2 q => ?_)
    rcases q with ⟨hn2, _⟩ | ⟨_, rfl, H⟩
    · exact absurd hn2 hn
    try unfold Try.a3x14
    repeat (first|refine zA ?_|refine zB rfl ?_|refine zC ?_|refine zD ?_|refine zE rfl ?_|refine zF ?_|refine zG ?_|refine zH ?_|refine zI ?_|refine zJ ?_|refine zK ?_|refine zL rfl ?_|refine zN rfl ?_)
    refine wp_neq_f rfl ?_
    repeat (first|refine zA ?_|refine zB rfl ?_|refine zC ?_|refine zD ?_|refine zE rfl ?_|refine zF ?_|refine zG ?_|refine zH ?_|refine zI ?_|refine zJ ?_|refine zK ?_|refine zL rfl ?_|refine zN rfl ?_)
    refine wp_op (v := B true) (S1 := S2) (by kernel_rfl) ?_
    repeat (first|refine zA ?_|refine zB rfl ?_|refine zC ?_|refine zD ?_|refine zE rfl ?_|refine zF ?_|refine zG ?_|refine zH ?_|refine zI ?_|refine zJ ?_|refine zK ?_|refine zL rfl ?_|refine zN rfl ?_)
    try unfold Try.a3x13
    repeat (first|refine zA ?_|refine zB rfl ?_|refine zC ?_|refine zD ?_|refine zE rfl ?_|refine zF ?_|refine zG ?_|refine zH ?_|refine zI ?_|refine zJ ?_|refine zK ?_|refine zL rfl ?_|refine zN rfl ?_)
    refine wp_op (v := B true) (S1 := S2) (by kernel_rfl) ?_
    repeat (first|refine zA ?_|refine zB rfl ?_|refine zC ?_|refine zD ?_|refine zE rfl ?_|refine zF ?_|refine zG ?_|refine zH ?_|refine zI ?_|refine zJ ?_|refine zK ?_|refine zL rfl ?_|refine zN rfl ?_)
    refine wp_op (v := B false) (S1 := S2) (by kernel_rfl) ?_
    repeat (first|refine zA ?_|refine zB rfl ?_|refine zC ?_|refine zD ?_|refine zE rfl ?_|refine zF ?_|refine zG ?_|refine zH ?_|refine zI ?_|refine zJ ?_|refine zK ?_|refine zL rfl ?_|refine zN rfl ?_)
    refine wp_op (v := B true) (S1 := S2) (by kernel_rfl) ?_
    try unfold Try.a3x12
    repeat (first|refine zA ?_|refine zB rfl ?_|refine zC ?_|refine zD ?_|refine zE rfl ?_|refine zF ?_|refine zG ?_|refine zH ?_|refine zI ?_|refine zJ ?_|refine zK ?_|refine zL rfl ?_|refine zN rfl ?_)
    exact aw _
  repeat (first|refine zA ?_|refine zB rfl ?_|refine zC ?_|refine zD ?_|refine zE rfl ?_|refine zF ?_|refine zG ?_|refine zH ?_|refine zI ?_|refine zJ ?_|refine zK ?_|refine zL rfl ?_|refine zN rfl ?_)
  refine wp_call (wpC_mono (rnew_ok H) fun u S2 q => ?_)
  rcases q with ⟨_, r, blkR, rfl, hr, H⟩ | ⟨hn2, _⟩
  rotate_left
  · exact absurd hn hn2
  try unfold Try.a3x14
  repeat (first|refine zA ?_|refine zB rfl ?_|refine zC ?_|refine zD ?_|refine zE rfl ?_|refine zF ?_|refine zG ?_|refine zH ?_|refine zI ?_|refine zJ ?_|refine zK ?_|refine zL rfl ?_|refine zN rfl ?_)
  refine wp_neq_f rfl ?_
  repeat (first|refine zA ?_|refine zB rfl ?_|refine zC ?_|refine zD ?_|refine zE rfl ?_|refine zF ?_|refine zG ?_|refine zH ?_|refine zI ?_|refine zJ ?_|refine zK ?_|refine zL rfl ?_|refine zN rfl ?_)
  refine wp_ptrNil typW ?_
  repeat (first|refine zA ?_|refine zB rfl ?_|refine zC ?_|refine zD ?_|refine zE rfl ?_|refine zF ?_|refine zG ?_|refine zH ?_|refine zI ?_|refine zJ ?_|refine zK ?_|refine zL rfl ?_|refine zN rfl ?_)
  try unfold Try.a3x13
  repeat (first|refine zA ?_|refine zB rfl ?_|refine zC ?_|refine zD ?_|refine zE rfl ?_|refine zF ?_|refine zG ?_|refine zH ?_|refine zI ?_|refine zJ ?_|refine zK ?_|refine zL rfl ?_|refine zN rfl ?_)
  refine wp_ptrNil typR ?_
  repeat (first|refine zA ?_|refine zB rfl ?_|refine zC ?_|refine zD ?_|refine zE rfl ?_|refine zF ?_|refine zG ?_|refine zH ?_|refine zI ?_|refine zJ ?_|refine zK ?_|refine zL rfl ?_|refine zN rfl ?_)
  refine wp_op (v := B false) (S1 := S2) (by kernel_rfl) ?_
  repeat (first|refine zA ?_|refine zB rfl ?_|refine zC ?_|refine zD ?_|refine zE rfl ?_|refine zF ?_|refine zG ?_|refine zH ?_|refine zI ?_|refine zJ ?_|refine zK ?_|refine zL rfl ?_|refine zN rfl ?_)
  refine wp_ptrNil typR ?_
  try unfold Try.a3x12
  repeat (first|refine zA ?_|refine zB rfl ?_|refine zC ?_|refine zD ?_|refine zE rfl ?_|refine zF ?_|refine zG ?_|refine zH ?_|refine zI ?_|refine zJ ?_|refine zK ?_|refine zL rfl ?_|refine zN rfl ?_)
  have H : Cx S [] S2 ([] ++ (blk ++ (blkR ++ []))) [.sl v 4 (tks l), .sl va 3 (acs a)] := by
    have p : (blkR ++ (blk ++ [])).Perm ([] ++ (blk ++ (blkR ++ []))) := List.perm_append_comm_assoc _ _ _
    exact H.perm p
  refine wp_callN H (copyT_ok (H.roSl (by repeat (first | exact List.Mem.head _ | apply List.Mem.tail))) (by omega)) fun vi S3 H => ?_
  have H : Cx S [] S3 ([] ++ (blk ++ (blkR ++ []))) [.sl vi 4 (tks l), .sl v 4 (tks l), .sl va 3 (acs a)] := H.freezeSl (i := 0) rfl
  refine wp_bind ?_
  try unfold Try.a3x10
  refine wp_loop (wpL_inv (fun m vs S1 => ∃ (i : Nat) (x : Wl) (blk blkR : List Own), vs = [I (i : Int), B false] ∧ i ≤ a.length ∧ m = a.length - i ∧ WRep w x blk ∧ RRep r x blkR ∧ Cx S [] S1 ([] ++ (blk ++ (blkR ++ []))) [.sl vi 4 (tks l), .sl v 4 (tks l), .sl va 3 (acs a)]) ?_ a.length
    ⟨0, _, blk, blkR, rfl, by omega, by omega, h, hr, H⟩)
  clear H h hr
  rintro m vs S4 ⟨i, x, blk, blkR, rfl, hi, rfl, h, hr, H⟩
  refine wp_len H (by repeat (first | exact List.Mem.head _ | apply List.Mem.tail)) ?_
  rw [acs_len]
  refine wp_lss (fun hlt => ?_) (fun hge => ?_)
  rotate_left
  · have : i = a.length := by omega
    subst this
    repeat (first|refine zA ?_|refine zB rfl ?_|refine zC ?_|refine zD ?_|refine zE rfl ?_|refine zF ?_|refine zG ?_|refine zH ?_|refine zI ?_|refine zJ ?_|refine zK ?_|refine zL rfl ?_|refine zN rfl ?_)
    refine wp_ret (.inr ⟨by simp, ?_⟩)
    show wp EM _ _ _
    try unfold Try.a3x11
    refine wp_callV H (sameT_ok (H.roSl (by repeat (first | exact List.Mem.head _ | apply List.Mem.tail))) (H.roSl (by repeat (first | exact List.Mem.head _ | apply List.Mem.tail))) (by omega)) fun S5 H => ?_
    refine wp_gcall_t (wp_call (wpC_kn (v := B true) rfl ?_))
    repeat (first|refine zA ?_|refine zB rfl ?_|refine zC ?_|refine zD ?_|refine zE rfl ?_|refine zF ?_|refine zG ?_|refine zH ?_|refine zI ?_|refine zJ ?_|refine zK ?_|refine zL rfl ?_|refine zN rfl ?_)
    exact wp_ret ⟨rfl, rfl⟩
  have hlt : i < a.length := by omega
  repeat (first|refine zA ?_|refine zB rfl ?_|refine zC ?_|refine zD ?_|refine zE rfl ?_|refine zF ?_|refine zG ?_|refine zH ?_|refine zI ?_|refine zJ ?_|refine zK ?_|refine zL rfl ?_|refine zN rfl ?_)
  try unfold Try.a3x9
  refine wp_bind ?_
  refine wp_len H (by repeat (first | exact List.Mem.head _ | apply List.Mem.tail)) ?_
  rw [acs_len]
  refine wp_Pick H (by omega) fun S5 H => ?_
  generalize pick pl (a.length : Int) = pk
  have hnt : ∀ {S : AH} {Q : Post} {k : AV → AC}, wp EM (k (B false)) S Q → wp EM (.op (.un .not (B true)) k) S Q := fun h => wp_op (v := B false) rfl h
  try unfold Try.a3x8
  have mid : ∀ b : Bool, wp EM (.ite (B b) (.call (.fn (.func 12) [] []) [.ptr w 0] fun v28 => Try.a3x4 [I now, v, va, I pl, I lv] (.ptr w 0) (.ptr r 0) vi [I (i : Int), B false] v28) (.ret .normal [B false])) S5
      fun t vs S' => t = .normal ∧ vs = [B false] ∧ Cx S [] S' ([] ++ (blk ++ (blkR ++ []))) [.sl vi 4 (tks l), .sl v 4 (tks l), .sl va 3 (acs a)] := by
    intro b
    cases b with
    | false => exact wp_ite_f (wp_ret ⟨rfl, rfl, H⟩)
    | true =>
      refine wp_ite_t ?_
      refine wp_call (wpC_mono (copyW_ok h H) fun u S6 ⟨y, blkY, hu, hy, H⟩ => ?_)
      subst hu
      try unfold Try.a3x4
      have H : Cx S [] S6 ((blkY ++ blk) ++ (blkR ++ [])) [.sl vi 4 (tks l), .sl v 4 (tks l), .sl va 3 (acs a)] := by
        have e : blkY ++ ([] ++ (blk ++ (blkR ++ []))) = (blkY ++ blk) ++ (blkR ++ []) := by simp
        rw [← e]; exact H
      refine wp_call (wpC_mono (rcopy_ok hr H) fun u S7 ⟨z, blkZ, hu, hz, H⟩ => ?_)
      subst hu
      have H : Cx S [] S7 ([] ++ (blkY ++ (blkZ ++ (blk ++ (blkR ++ []))))) [.sl vi 4 (tks l), .sl v 4 (tks l), .sl va 3 (acs a)] := by
        have e : blkZ ++ ((blkY ++ blk) ++ (blkR ++ [])) = blkZ ++ (blkY ++ (blk ++ (blkR ++ []))) := by simp
        rw [e] at H
        exact H.perm (List.perm_append_comm_assoc _ _ _)
      refine wp_saddr (v := va) (L := acs a) (i := i) H (by repeat (first | exact List.Mem.head _ | apply List.Mem.tail)) (acs_get hlt) fun q qo H1 => ?_
      refine wp_loada (n := 3) H1 (cs := a[i].cs) (by repeat (first | exact List.Mem.head _ | apply List.Mem.tail)) (Nat.le_refl _) ?_
      replace H := H1.tl
      refine wp_call (wpC_mono (acts_ok (l := l) (a := a[i]) (by repeat (first | exact List.Mem.head _ | apply List.Mem.tail)) hy hz H) fun u S8 ⟨hu, y', blkY', blkZ', hy', hz', H⟩ => ?_)
      subst hu
      refine hnt ?_
      repeat (first|refine zA ?_|refine zB rfl ?_|refine zC ?_|refine zD ?_|refine zE rfl ?_|refine zF ?_|refine zG ?_|refine zH ?_|refine zI ?_|refine zJ ?_|refine zK ?_|refine zL rfl ?_|refine zN rfl ?_)
      try unfold Try.a3x3
      repeat (first|refine zA ?_|refine zB rfl ?_|refine zC ?_|refine zD ?_|refine zE rfl ?_|refine zF ?_|refine zG ?_|refine zH ?_|refine zI ?_|refine zJ ?_|refine zK ?_|refine zL rfl ?_|refine zN rfl ?_)
      refine wp_saddr (v := va) (L := acs a) (i := i) H (by repeat (first | exact List.Mem.head _ | apply List.Mem.tail)) (acs_get hlt) fun q qo H1 => ?_
      repeat (first|refine zA ?_|refine zB rfl ?_|refine zC ?_|refine zD ?_|refine zE rfl ?_|refine zF ?_|refine zG ?_|refine zH ?_|refine zI ?_|refine zJ ?_|refine zK ?_|refine zL rfl ?_|refine zN rfl ?_)
      refine wp_load1 (id := q) (j := 1) H1 (cs := a[i].cs) (by repeat (first | exact List.Mem.head _ | apply List.Mem.tail)) rfl ?_
      replace H := H1.tl
      try unfold Try.a3x2
      repeat (first|refine zA ?_|refine zB rfl ?_|refine zC ?_|refine zD ?_|refine zE rfl ?_|refine zF ?_|refine zG ?_|refine zH ?_|refine zI ?_|refine zJ ?_|refine zK ?_|refine zL rfl ?_|refine zN rfl ?_)
      refine wp_call (wpC_mono (stands_ok hy' hz' H) fun u S9 ⟨hu, H⟩ => ?_)
      subst hu
      repeat (first|refine zA ?_|refine zB rfl ?_|refine zC ?_|refine zD ?_|refine zE rfl ?_|refine zF ?_|refine zG ?_|refine zH ?_|refine zI ?_|refine zJ ?_|refine zK ?_|refine zL rfl ?_|refine zN rfl ?_)
      refine hnt ?_
      repeat (first|refine zA ?_|refine zB rfl ?_|refine zC ?_|refine zD ?_|refine zE rfl ?_|refine zF ?_|refine zG ?_|refine zH ?_|refine zI ?_|refine zJ ?_|refine zK ?_|refine zL rfl ?_|refine zN rfl ?_)
      try unfold Try.a3x1
      repeat (first|refine zA ?_|refine zB rfl ?_|refine zC ?_|refine zD ?_|refine zE rfl ?_|refine zF ?_|refine zG ?_|refine zH ?_|refine zI ?_|refine zJ ?_|refine zK ?_|refine zL rfl ?_|refine zN rfl ?_)
      refine wp_saddr (v := va) (L := acs a) (i := i) H (by repeat (first | exact List.Mem.head _ | apply List.Mem.tail)) (acs_get hlt) fun q qo H1 => ?_
      repeat (first|refine zA ?_|refine zB rfl ?_|refine zC ?_|refine zD ?_|refine zE rfl ?_|refine zF ?_|refine zG ?_|refine zH ?_|refine zI ?_|refine zJ ?_|refine zK ?_|refine zL rfl ?_|refine zN rfl ?_)
      refine wp_load1 (id := q) (j := 1) H1 (cs := a[i].cs) (by repeat (first | exact List.Mem.head _ | apply List.Mem.tail)) rfl ?_
      replace H := H1.tl
      repeat (first|refine zA ?_|refine zB rfl ?_|refine zC ?_|refine zD ?_|refine zE rfl ?_|refine zF ?_|refine zG ?_|refine zH ?_|refine zI ?_|refine zJ ?_|refine zK ?_|refine zL rfl ?_|refine zN rfl ?_)
      try unfold Try.a3x0
      repeat (first|refine zA ?_|refine zB rfl ?_|refine zC ?_|refine zD ?_|refine zE rfl ?_|refine zF ?_|refine zG ?_|refine zH ?_|refine zI ?_|refine zJ ?_|refine zK ?_|refine zL rfl ?_|refine zN rfl ?_)
      have H : Cx S [] S9 ((blkY' ++ blkZ') ++ (blk ++ (blkR ++ []))) [.sl vi 4 (tks l), .sl v 4 (tks l), .sl va 3 (acs a)] := by
        have e : [] ++ (blkY' ++ (blkZ' ++ (blk ++ (blkR ++ [])))) = (blkY' ++ blkZ') ++ (blk ++ (blkR ++ [])) := by simp
        rw [← e]; exact H
      refine wp_call (wpC_mono (stands_ok h hr H) fun u S10 ⟨hu, H⟩ => ?_)
      subst hu
      repeat (first|refine zA ?_|refine zB rfl ?_|refine zC ?_|refine zD ?_|refine zE rfl ?_|refine zF ?_|refine zG ?_|refine zH ?_|refine zI ?_|refine zJ ?_|refine zK ?_|refine zL rfl ?_|refine zN rfl ?_)
      refine hnt ?_
      repeat (first|refine zA ?_|refine zB rfl ?_|refine zC ?_|refine zD ?_|refine zE rfl ?_|refine zF ?_|refine zG ?_|refine zH ?_|refine zI ?_|refine zJ ?_|refine zK ?_|refine zL rfl ?_|refine zN rfl ?_)
      exact wp_ret ⟨rfl, rfl, H.dropOwn (List.sublist_append_right _ _)⟩
  refine wp_op e_eql ?_
  refine wp_bind (wp_mono (mid _) ?_)
  clear H mid
  rintro t vs S6 ⟨rfl, rfl, H⟩
  show wp EM _ _ _
  refine wp_saddr (v := va) (L := acs a) (i := i) H (by repeat (first | exact List.Mem.head _ | apply List.Mem.tail)) (acs_get hlt) fun q qo H1 => ?_
  refine wp_loada (n := 3) H1 (cs := a[i].cs) (by repeat (first | exact List.Mem.head _ | apply List.Mem.tail)) (Nat.le_refl _) ?_
  replace H := H1.tl
  refine wp_call (wpC_mono (acts_ok (l := l) (a := a[i]) (by repeat (first | exact List.Mem.head _ | apply List.Mem.tail)) h hr H) fun u S8 ⟨hu, y', blkY', blkZ', hy', hz', H⟩ => ?_)
  subst hu
  try unfold Try.a3x7
  refine hnt ?_
  repeat (first|refine zA ?_|refine zB rfl ?_|refine zC ?_|refine zD ?_|refine zE rfl ?_|refine zF ?_|refine zG ?_|refine zH ?_|refine zI ?_|refine zJ ?_|refine zK ?_|refine zL rfl ?_|refine zN rfl ?_)
  refine wp_saddr (v := va) (L := acs a) (i := i) H (by repeat (first | exact List.Mem.head _ | apply List.Mem.tail)) (acs_get hlt) fun q qo H1 => ?_
  try unfold Try.a3x6
  repeat (first|refine zA ?_|refine zB rfl ?_|refine zC ?_|refine zD ?_|refine zE rfl ?_|refine zF ?_|refine zG ?_|refine zH ?_|refine zI ?_|refine zJ ?_|refine zK ?_|refine zL rfl ?_|refine zN rfl ?_)
  refine wp_load1 (id := q) (j := 1) H1 (cs := a[i].cs) (by repeat (first | exact List.Mem.head _ | apply List.Mem.tail)) rfl ?_
  replace H := H1.tl
  repeat (first|refine zA ?_|refine zB rfl ?_|refine zC ?_|refine zD ?_|refine zE rfl ?_|refine zF ?_|refine zG ?_|refine zH ?_|refine zI ?_|refine zJ ?_|refine zK ?_|refine zL rfl ?_|refine zN rfl ?_)
  refine wp_call (wpC_mono (stands_ok hy' hz' H) fun u S9 ⟨hu, H⟩ => ?_)
  subst hu
  repeat (first|refine zA ?_|refine zB rfl ?_|refine zC ?_|refine zD ?_|refine zE rfl ?_|refine zF ?_|refine zG ?_|refine zH ?_|refine zI ?_|refine zJ ?_|refine zK ?_|refine zL rfl ?_|refine zN rfl ?_)
  refine hnt ?_
  repeat (first|refine zA ?_|refine zB rfl ?_|refine zC ?_|refine zD ?_|refine zE rfl ?_|refine zF ?_|refine zG ?_|refine zH ?_|refine zI ?_|refine zJ ?_|refine zK ?_|refine zL rfl ?_|refine zN rfl ?_)
  try unfold Try.a3x5
  repeat (first|refine zA ?_|refine zB rfl ?_|refine zC ?_|refine zD ?_|refine zE rfl ?_|refine zF ?_|refine zG ?_|refine zH ?_|refine zI ?_|refine zJ ?_|refine zK ?_|refine zL rfl ?_|refine zN rfl ?_)
  refine wp_ret ?_
  show wp EM _ _ _
  exact wp_add64 (by omega) (by omega) (wp_ret (.inl ⟨rfl, a.length - (i + 1), by omega, i + 1, y', blkY', blkZ', rfl, by omega, rfl, hy', hz', H⟩))
end
end Go.Abs
