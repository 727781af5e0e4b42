/- functions of this cut: what they compute, in the abstract machine. Conditions: stated in each theorem -/
import Derived.Test.YtdidccjcbfcklaaGreatM6
import Derived.Test.YtdidccjcbfcklaaGreatM2
set_option linter.unusedVariables false
set_option linter.unusedSectionVars false
set_option linter.unusedSimpArgs false
set_option linter.unusedSectionVars false
namespace Go.Abs.X
variable [Ek]
open Go.Proofs
set_option maxRecDepth 100000
set_option linter.unusedVariables false
open Tsk (Tk tks tchk)
section
variable {B0 S : AH} {W : List Nat} {own E R : List Own} {ro : List Fct} {Q : Post} {k : AV → AC} {w : Nat} {x : Wl} {blk : List Own}
theorem wp_Run {v : AV} {l : List Tk} {to : Nat} {M D : List Fi} (hv : Fct.sl v 4 (tks l) ∈ ro) (hc : tchk l = 0) (hm : mayE x to = 0) (hr : runM l to 4097 x.L = some (M, D)) (h : WRep w x blk) (H : Cx B0 W S (E ++ (blk ++ R)) ro)
    (hk : ∀ S u blk', WRep w ⟨to, M⟩ blk' → Cx B0 W S (.sl u 2 (fis D) :: (E ++ (blk' ++ R))) ro → wp EM (k (.tup [u, I 0])) S Q) : wp EM (.call (.fn (.func 95) [] []) [.ptr w 0, v, I (to : Int)] k) S Q := by
  have hor : orI [tchk l, mayE x to] = 0 := by rw [hc, hm]; rfl
  have hrn : runN l to 4097 x [] = some (⟨x.now, M⟩, D) := by rw [runN_runM, hr]; rfl
  refine wp_call (wpC_mono (run_ok (l := l) (to := (to : Int)) hv h H) fun r S4 ⟨u, blk', hr', h', H'⟩ => ?_)
  subst hr'
  have hE : runE x l to = 0 := by unfold runE; rw [if_neg (by rw [hor]; simp), hrn]
  have hX : runX x l to = ⟨to, M⟩ := by unfold runX; rw [if_neg (by rw [hor]; simp), hrn]; rfl
  have hL : runL x l to = D := by unfold runL; rw [if_neg (by rw [hor]; simp), hrn]
  rw [hE]
  rw [hX] at h'
  rw [hL] at H'
  exact hk _ u blk' h' H'
end
end Go.Abs.X
namespace Go.Abs.X
variable [Ek]
open Go.Proofs
set_option maxRecDepth 100000
set_option linter.unusedVariables false
open Tsk (Tk tks tchk)
/-! ### the clock goes on -/
def zero5 : List AV := [I 0, B false, I 0, I 0, U 0]
def moved (n : Int) : List AV := [I n, B false, I 0, I 0, U 0]
section
variable {B0 S : AH} {W : List Nat} {own A R : List Own} {ro : List Fct} {Q : Post} {k : AV → AC} {kc : AC} {x : Wl} {blk : List Own}
  {e : Ex} {u du hi nt fv : AV} {m d f w mp bl bx q C : Nat} {y : Me} {rest : List AV} {calls : Int} {D : List Fi}
theorem permIn {P : Own} {A B R : List Own} : (P :: (A ++ (B ++ R))).Perm (A ++ (B ++ P :: R)) := by
  refine List.perm_middle.symm.trans (List.Perm.append_left A ?_)
  exact List.perm_middle.symm
theorem wnone_ok {row : List AV} (i : Nat) (hq : own[i]? = some (.obj q (.row row))) (h29 : row[29]? = some (.ptr m 0)) (H : Cx B0 W S own ro) : wpC EM (.fn (.func 25) [] []) [.ptr q 0] S fun r S' => r = B false ∧ S' = S := by
  refine wpC_fn (b := Tryz.a25) rfl rfl ?_
  rw [Tryz.u25]
  refine wp_op (e_ptrNil (by kernel_rfl)) ?_
  try(refine zz ?_;(repeat constructor);intro _)
  refine wp_row (j := 29) H i hq h29 ?_
  try(refine zz ?_;(repeat constructor);intro _)
  refine wp_op (e_ptrNil (by kernel_rfl)) ?_
  try(refine zz ?_;(repeat constructor);intro _)
  exact wp_ret ⟨rfl, rfl, rfl⟩
theorem wnow_ok {row : List AV} {E : List Own} (i : Nat) (hq : E[i]? = some (.obj q (.row row))) (h29 : row[29]? = some (.ptr m 0)) (h32 : row[32]? = some (.ptr w 0)) (h : WRep w x blk) (H : Cx B0 W S (E ++ (blk ++ R)) ro) : wpC EM (.fn (.func 9) [] []) [.ptr q 0] S fun r S' => r = I x.now ∧ Cx B0 W S' (E ++ (blk ++ R)) ro := by
  refine wpC_fn (b := Tryz.a9) rfl rfl ?_
  have hq2 : (E ++ (blk ++ R))[i]? = some (.obj q (.row row)) := by rw [List.getElem?_append_left (List.getElem?_eq_some_iff.1 hq).1]; exact hq
  rw [Tryz.u9]
  refine wp_call (wpC_mono (wnone_ok i hq2 h29 H) fun r S1 qq => ?_)
  obtain ⟨rfl, rfl⟩ := qq
  try(refine zz ?_;(repeat constructor);intro _)
  refine wp_row (j := 32) H i hq2 h32 ?_
  refine wp_call (wpC_mono (Go.Abs.now_ok h H) fun r S2 qq => ?_)
  obtain ⟨rfl, H⟩ := qq
  exact wp_ret ⟨rfl, rfl, H⟩
theorem tick_ok {l : List Tk} {n : Nat} {M A : List Fi} (hu : Fct.sl u 4 (tks l) ∈ ro) (hc : tchk l = 0) (hx : x.now + n ≤ 1200) (hm : mayE x ((x.now + n : Nat) : Int) = 0) (hr : runM l ((x.now + n : Nat) : Int) 4097 x.L = some (M, A)) (hl : D.length + A.length ≤ 4000)
    (h : WRep w x blk) (H : Cx B0 W S (wE du D f fv C m bl y rest bx q (pwr e u m d f w mp du hi calls nt) mp ++ (blk ++ R)) ro) :
    wpC EM (.fn (.func 56) [] []) [.ptr q 0, .agg [I 8, I 0, I (n : Int)]] S fun r S' => r = .tup [.agg (moved A.length), I 0] ∧ ∃ w' du' blk', WRep w' ⟨x.now + n, M⟩ blk' ∧ Cx B0 W S' (wE du' (D ++ A) f fv C m bl y rest bx q (pwr e u m d f w' mp du' hi calls nt) mp ++ (blk' ++ R)) ro := by
  refine wpC_fn (b := Tryz.a56) rfl rfl ?_
  rw [Tryz.u56]
  refine wp_fin ?_
  refine wp_box H rfl fun p S1 H => ?_
  refine wp_alloc H fun z S2 H => ?_
  have H : Cx B0 W S2 (wE du D f fv C m bl y rest bx q (pwr e u m d f w mp du hi calls nt) mp ++ (blk ++ (.obj z (.row zero5) :: R))) (.pt p 0 [I 8, I 0, I (n : Int)] :: ro) := H.permS permIn
  have mp' : Fct.pt p 0 [I 8, I 0, I (n : Int)] ∈ (.pt p 0 [I 8, I 0, I (n : Int)] :: ro) := List.Mem.head _
  have mu : Fct.sl u 4 (tks l) ∈ (.pt p 0 [I 8, I 0, I (n : Int)] :: ro) := List.mem_cons_of_mem _ hu
  try(refine zz ?_;(repeat constructor);intro _)
  refine wp_ld (o := 2) H mp' rfl ?_
  refine wp_lss_f (by omega) ?_
  try(refine zz ?_;(repeat constructor);intro _)
  refine wp_ld (o := 2) H mp' rfl ?_
  try(refine zz ?_;(repeat constructor);intro _)
  refine wp_gtr_f (by omega) ?_
  try(refine zz ?_;(repeat constructor);intro _)
  refine wp_ld (o := 2) H mp' rfl ?_
  try(refine zz ?_;(repeat constructor);intro _)
  refine wp_call (wpC_mono (wnow_ok 6 rfl rfl rfl h H) fun r S3 qq => ?_)
  obtain ⟨rfl, H⟩ := qq
  refine wp_gchk_t (wp_ck (o := 2) H mp' rfl beq_num ?_)
  try(refine zz ?_;(repeat constructor);intro _)
  refine wp_sub64 (by omega) (by omega) ?_
  try(refine zz ?_;(repeat constructor);intro _)
  refine wp_gtr_f (by omega) ?_
  try(refine zz ?_;(repeat constructor);intro _)
  refine wp_row (j := 32) H 6 rfl rfl ?_
  refine wp_call (wpC_mono (Go.Abs.copyW_ok h H) fun r S4 qq => ?_)
  obtain ⟨w', blk', rfl, h', H⟩ := qq
  try(refine zz ?_;(repeat constructor);intro _)
  refine wp_row (j := 28) H (blk'.length + 6) (app_get rfl) rfl ?_
  try(refine zz ?_;(repeat constructor);intro _)
  refine wp_ld (o := 2) H mp' rfl ?_
  have H : Cx B0 W S4 ((blk' ++ wE du D f fv C m bl y rest bx q (pwr e u m d f w mp du hi calls nt) mp) ++ (blk ++ (.obj z (.row zero5) :: R))) (.pt p 0 [I 8, I 0, I (n : Int)] :: ro) := by rw [List.append_assoc]; exact H
  refine wp_call (wpC_mono (wnow_ok (blk'.length + 6) (app_get rfl) rfl rfl h H) fun r S5 qq => ?_)
  obtain ⟨rfl, H⟩ := qq
  rw [List.append_assoc] at H
  have hb : AV.beq u u = true := Ex.beq_sl (H.rh _ mu)
  refine wp_cko (o := 28) H (blk'.length + 6) (app_get rfl) rfl hb ?_
  refine wp_ck (o := 2) H mp' rfl beq_num ?_
  refine wp_add64 (by omega) (by omega) ?_
  rw [show (x.now : Int) + (n : Int) = ((x.now + n : Nat) : Int) by omega]
  refine wp_Run (E := []) (R := wE du D f fv C m bl y rest bx q (pwr e u m d f w mp du hi calls nt) mp ++ (blk ++ (.obj z (.row zero5) :: R))) mu hc hm hr h' H fun S6 ua blk2 h2 H => ?_
  have H := H.toRo (i := 0) rfl
  have H : Cx B0 W S6 (wE du D f fv C m bl y rest bx q (pwr e u m d f w mp du hi calls nt) mp ++ (blk2 ++ (blk ++ (.obj z (.row zero5) :: R)))) (.sl ua 2 (fis A) :: .pt p 0 [I 8, I 0, I (n : Int)] :: ro) := H.permS (List.perm_append_comm_assoc blk2 (wE du D f fv C m bl y rest bx q (pwr e u m d f w mp du hi calls nt) mp) (blk ++ (.obj z (.row zero5) :: R)))
  have H : Cx B0 W S6 (wE du D f fv C m bl y rest bx q (pwr e u m d f w mp du hi calls nt) mp ++ (blk2 ++ (.obj z (.row zero5) :: R))) (.sl ua 2 (fis A) :: .pt p 0 [I 8, I 0, I (n : Int)] :: ro) := H.dropOwn (List.Sublist.append (List.Sublist.refl _) (List.Sublist.append (List.Sublist.refl _) (List.sublist_append_right blk _)))
  try(refine zz ?_;(repeat constructor);intro _)
  refine wp_neq_f (by omega) ?_
  try(refine zz ?_;(repeat constructor);intro _)
  refine wp_row (j := 34) H 6 rfl rfl ?_
  refine wp_leno H 0 rfl ?_
  refine wp_len H (List.Mem.head _) ?_
  rw [fis_len, fis_len]
  refine wp_add64 (by omega) (by omega) ?_
  refine wp_gtr_f (by omega) ?_
  try(refine zz ?_;(repeat constructor);intro _)
  refine wp_set1 (j := 32) H 6 rfl (Nat.le_of_ble_eq_true rfl) ⟨rfl, rfl⟩ fun S7 H => ?_
  try(refine zz ?_;(repeat constructor);intro _)
  refine wp_row (j := 34) H 6 rfl rfl ?_
  refine wp_appendR (N := fis A) H 0 rfl (List.Mem.head _) (fis_all A) (by rw [fis_len, fis_len]; unfold maxBytes; omega) (by rw [fis_len, fis_len]; unfold maxLenN; omega) fun du' S8 H => ?_
  have hdu : Fv du' := slOk_one (ownSl_ok (H.oh _ (List.Mem.head _)))
  try(refine zz ?_;(repeat constructor);intro _)
  refine wp_set1 (j := 34) H 6 rfl (Nat.le_of_ble_eq_true rfl) hdu fun S9 H => ?_
  refine wp_len H (List.Mem.head _) ?_
  rw [fis_len]
  refine wp_op (v := .agg (moved A.length)) rfl ?_
  have H : Cx B0 W S9 (wE du' (D ++ A) f fv C m bl y rest bx q (pwr e u m d f w' mp du' hi calls nt) mp ++ (blk2 ++ (.obj z (.row zero5) :: R))) (.sl ua 2 (fis A) :: .pt p 0 [I 8, I 0, I (n : Int)] :: ro) := by
    have e1 : wE du' (D ++ A) f fv C m bl y rest bx q (pwr e u m d f w' mp du' hi calls nt) mp = .sl du' 2 (fis D ++ fis A) :: (wE du' (D ++ A) f fv C m bl y rest bx q (pwr e u m d f w' mp du' hi calls nt) mp).tail := by rw [← fis_app]; rfl
    rw [e1]
    exact H
  have H := (H.permS permIn.symm).tl.tl
  refine wp_store (n := 5) H 0 (c := zero5) rfl rfl rfl (by simp [zero5]) fun S10 H => ?_
  have H : Cx B0 W S10 (.obj z (.row (moved A.length)) :: (wE du' (D ++ A) f fv C m bl y rest bx q (pwr e u m d f w' mp du' hi calls nt) mp ++ (blk2 ++ R))) ro := H
  refine wp_ret ⟨.inr rfl, ?_⟩
  refine wp_loadoa (n := 5) H 0 rfl (by simp [moved]) ?_
  exact wp_ret ⟨rfl, rfl, w', du', blk2, h2, H.dropAt 0⟩
end
end Go.Abs.X
set_option linter.unusedSectionVars false
namespace Go.Abs.X
variable [Ek]
open Go.Proofs
set_option maxRecDepth 100000
set_option linter.unusedVariables false
open Tsk (Tk tks tchk)
theorem wp_suffix {M : Mach} {B0 S : AH} {W : List Nat} {own : List Own} {ro : List Fct} {Q : Post} {k : AV → AC} (H : Cx B0 W S own ro) {v : AV} {es i : Nat} {L : List (List AV)} (hm : Fct.sl v es L ∈ ro) (hi : i ≤ L.length)
    (h : ∀ v', Cx B0 W S own (.sl v' es (L.drop i) :: ro) → wp M (k v') S Q) : wp M (.op (.sslice es v (some (I (i : Int))) none none) k) S Q := by
  have hs := H.rh _ hm
  rcases hs with ⟨rfl, rfl⟩ | ⟨id, off, c, h0, h1, h2, h3⟩
  · have : i = 0 := by simpa using hi
    subst this
    exact wp_op (v := Ns) rfl (h Ns (H.addRo (.inl ⟨rfl, by simp⟩) fun id hid => by simp [Fct.ids, vids] at hid))
  · have hmul : (L.length - i) * es = L.length * es - i * es := Nat.sub_mul ..
    have hie : i * es ≤ L.length * es := Nat.mul_le_mul_right es hi
    have hfl : ∀ o, o = off + i * es ∨ L.length = i → (c.drop o).take ((L.drop i).length * es) = (L.drop i).flatten := by
      intro o ho
      rw [List.length_drop]
      rcases ho with rfl | ho
      · rw [← drop_flat h3, ← h2, List.drop_take, List.drop_drop, hmul]
      · rw [ho, Nat.sub_self, Nat.zero_mul, List.take_zero, List.drop_eq_nil_of_le (by omega)]; rfl
    have hh3 : ∀ x ∈ L.drop i, x.length = es := fun x hx => h3 x (List.mem_of_mem_drop hx)
    rcases h0 with ⟨cap, q1, q2, rfl⟩ | ⟨cap, q1, q2, rfl⟩
    · have hcm : (cap - i) * es = cap * es - i * es := Nat.sub_mul ..
      have hce : L.length * es ≤ cap * es := Nat.mul_le_mul_right es q1
      have hev : evalOp M.P (.sslice es (.sl id off L.length cap) (some (I (i : Int))) none none) S = some (.sl id (if Nat.beq cap i then off else Nat.add off (Nat.mul i es)) (L.length - i) (cap - i), S) := by
        show pur (pSslice es (.sl id off L.length cap) (some (I (i : Int))) none none) S = _
        unfold pSslice
        simp only [bnds_lo hi q1]
        rfl
      refine wp_op hev (h _ (H.addRo (.inr ⟨id, if Nat.beq cap i then off else Nat.add off (Nat.mul i es), c, .inl ⟨cap - i, by rw [List.length_drop]; omega, ?_, by rw [List.length_drop]⟩, h1, hfl _ ?_, hh3⟩) fun j hj => H.ri _ hm j hj))
      · by_cases e : Nat.beq cap i = true
        · rw [if_pos e]
          have := Nat.eq_of_beq_eq_true e
          rw [this, Nat.sub_self, Nat.zero_mul]; omega
        · rw [if_neg e]
          show off + i * es + (cap - i) * es ≤ _
          omega
      · by_cases e : Nat.beq cap i = true
        · rw [if_pos e]
          have := Nat.eq_of_beq_eq_true e
          exact .inr (by omega)
        · rw [if_neg e]; exact .inl rfl
    · have hcm : (cap - i) * es = cap * es - i * es := Nat.sub_mul ..
      have hce : L.length * es ≤ cap * es := Nat.mul_le_mul_right es q1
      have hev : evalOp M.P (.sslice es (.op id off L.length cap es) (some (I (i : Int))) none none) S = some (.op id (Nat.add off (Nat.mul i es)) (L.length - i) (cap - i) es, S) := by
        show pur (pSslice es (.op id off L.length cap es) (some (I (i : Int))) none none) S = _
        unfold pSslice
        simp only [bnds_lo hi q1, Nat.beq_refl]
        rfl
      refine wp_op hev (h _ (H.addRo (.inr ⟨id, Nat.add off (Nat.mul i es), c, .inr ⟨cap - i, by rw [List.length_drop]; omega, ?_, by rw [List.length_drop]⟩, h1, hfl _ (.inl rfl), hh3⟩) fun j hj => H.ri _ hm j hj))
      show off + i * es + (cap - i) * es ≤ _
      omega
section
variable {B0 S : AH} {W : List Nat} {own A R : List Own} {ro : List Fct} {Q : Post} {k : AV → AC} {kc : AC} {x : Wl} {blk : List Own}
  {e : Ex} {u du hi nt fv : AV} {m d f w mp bl bx q C : Nat} {y : Me} {rest : List AV} {calls : Int} {D : List Fi}
theorem cloneF_ok {v : AV} {L : List Fi} (hv : RoSl S v 2 (fis L)) (hl : L.length ≤ 100000) : wpC EM (.fn (.func 32) [] []) [v] S fun r S' => Cx S [] S' [.sl r 2 (fis L)] [] := by
  refine wpC_fn (b := Tryz.a32) rfl rfl ?_
  have H := Cx.ro1 hv
  rw [Tryz.u32]
  have some' : v ≠ Ns → evalOp EM.P (.eq 61 false v Ns) S = some (B false, S) := fun hne => by
    rcases hv.1 with ⟨rfl, _⟩ | ⟨id, off, c, (⟨_, _, _, rfl⟩ | ⟨_, _, _, rfl⟩), _⟩
    · exact absurd rfl hne
    · kernel_rfl
    · kernel_rfl
  by_cases hn : v = Ns
  · subst hn
    have h0 : fis L = [] := by
      rcases hv.1 with ⟨_, h⟩ | ⟨id, off, c, (⟨_, _, _, h⟩ | ⟨_, _, _, h⟩), _⟩
      · exact h
      · cases h
      · cases h
    refine wp_op (v := B true) (S1 := S) (by kernel_rfl) ?_
    try(refine zz ?_;(repeat constructor);intro _)
    refine wp_ret ⟨rfl, ?_⟩
    rw [h0]
    rw [h0] at H
    exact (H.addNilS 2).tl
  · refine wp_op (some' hn) ?_
    try(refine zz ?_;(repeat constructor);intro _)
    refine wp_bslice0 H rfl fun u S1 H => ?_
    refine wp_appendR (x := v) (N := fis L) H 0 rfl (by repeat (first | exact List.Mem.head _ | apply List.Mem.tail)) (fis_all L) (by rw [fis_len]; unfold maxBytes; simp; omega) (by rw [fis_len]; unfold maxLenN; simp; omega) fun v1 S2 H => ?_
    refine wp_ret ⟨rfl, ?_⟩
    exact H.tl
theorem cloneE_ok {v : AV} {a : List AV} (ha : a.length = 9) (hv : RoSl S v 9 [a]) : wpC EM (.fn (.func 34) [] []) [v] S fun r S' => Cx S [] S' [.sl r 9 [a]] [] := by
  refine wpC_fn (b := Tryz.a34) rfl rfl ?_
  have H := Cx.ro1 hv
  rw [Tryz.u34]
  have some' : evalOp EM.P (.eq 67 false v Ns) S = some (B false, S) := by
    rcases hv.1 with ⟨rfl, h⟩ | ⟨id, off, c, (⟨_, _, _, rfl⟩ | ⟨_, _, _, rfl⟩), _⟩
    · cases h
    · kernel_rfl
    · kernel_rfl
  refine wp_op some' ?_
  try(refine zz ?_;(repeat constructor);intro _)
  refine wp_bslice0 H rfl fun u S1 H => ?_
  refine wp_appendR (x := v) (N := [a]) H 0 rfl (by repeat (first | exact List.Mem.head _ | apply List.Mem.tail)) (by simp [ha]) (by unfold maxBytes; simp) (by unfold maxLenN; simp) fun v1 S2 H => ?_
  refine wp_ret ⟨rfl, ?_⟩
  exact H.tl
end
end Go.Abs.X
set_option linter.unusedSectionVars false
namespace Go.Abs.X
variable [Ek]
open Go.Proofs
set_option maxRecDepth 100000
set_option linter.unusedVariables false
open Tsk (Tk tks tchk)
section
variable {B0 S : AH} {W : List Nat} {own A R : List Own} {ro : List Fct} {Q : Post} {k : AV → AC} {kc : AC} {x : Wl} {blk : List Own}
  {e : Ex} {u du hi nt fv : AV} {m d f w mp bl bx q C o : Nat} {y : Me} {rest : List AV} {calls : Int} {D : List Fi}
/-! ### a core begins -/
theorem ask_ok (i j : Nat) (hf : own[i]? = some (.obj f (.row [fv, Ns, I 0]))) (hs : own[j]? = some (.sl fv 1 (List.replicate C [Np]))) (hC : 1 ≤ C ∧ C ≤ 64) (H : Cx B0 W S own ro) : wpC EM (.fn (.func 177) [] []) [.ptr f 0, I 0] S fun r S' => r = I 0 ∧ S' = S := by
  refine wpC_fn (b := Tryz.a177) rfl rfl ?_
  rw [Tryz.u177]
  refine wp_bind ?_
  refine wp_op (e_ptrNil (by kernel_rfl)) ?_
  try(refine zz ?_;(repeat constructor);intro _)
  refine wp_row (j := 0) H i hf rfl ?_
  try(refine zz ?_;(repeat constructor);intro _)
  refine wp_op (S1 := S) (v := B false) ?_ ?_
  · rcases ownSl_ok (H.oh _ (List.mem_of_getElem? hs)) with ⟨_, h⟩ | ⟨id, off, c, (⟨_, _, _, rfl⟩ | ⟨_, _, _, rfl⟩), _⟩
    · have := congrArg List.length h; simp at this; omega
    · kernel_rfl
    · kernel_rfl
  try(refine zz ?_;(repeat constructor);intro _)
  refine wp_lss_f (by omega) ?_
  try(refine zz ?_;(repeat constructor);intro _)
  refine wp_row (j := 0) H i hf rfl ?_
  refine wp_gop_t (wp_leno H j hs ?_)
  rw [List.length_replicate]
  refine wp_gop_t (wp_geq_f (by omega) ?_)
  try(refine zz ?_;(repeat constructor);intro _)
  refine wp_ret ?_
  show wp EM _ _ _
  exact wp_ret ⟨rfl, rfl, rfl⟩
theorem fat_ok (i j : Nat) (hf : own[i]? = some (.obj f (.row [fv, Ns, I 0]))) (hs : own[j]? = some (.sl fv 1 (List.replicate C [Np]))) (hC : 1 ≤ C ∧ C ≤ 64) (H : Cx B0 W S own ro) : wpC EM (.fn (.func 178) [] []) [.ptr f 0, I 0] S fun r S' => r = Np ∧ S' = S := by
  refine wpC_fn (b := Tryz.a178) rfl rfl ?_
  rw [Tryz.u178]
  refine wp_lss_f (by omega) ?_
  try(refine zz ?_;(repeat constructor);intro _)
  refine wp_row (j := 0) H i hf rfl ?_
  refine wp_gop_t (wp_leno H j hs ?_)
  rw [List.length_replicate]
  refine wp_gop_t (wp_geq_f (by omega) ?_)
  try(refine zz ?_;(repeat constructor);intro _)
  refine wp_row (j := 0) H i hf rfl ?_
  refine wp_saddro H j hs (i := 0) (x := [Np]) (by rw [List.getElem?_replicate]; simp; omega) fun id off hp => ?_
  refine wp_loadF0 hp ?_
  exact wp_ret ⟨rfl, rfl, rfl⟩
theorem fbegin_ok (i j : Nat) (hf : own[i]? = some (.obj f (.row [fv, Ns, I 0]))) (hs : own[j]? = some (.sl fv 1 (List.replicate C [Np]))) (hC : 1 ≤ C ∧ C ≤ 64) (H : Cx B0 W S own ro) : wpC EM (.fn (.func 127) [] []) [.ptr f 0, I 0, I 1] S fun r S' => r = I 0 ∧ ∃ L', Cx B0 W S' (own.set j (.sl fv 1 L')) ro := by
  refine wpC_fn (b := Tryz.a127) rfl rfl ?_
  rw [Tryz.u127]
  refine wp_call (wpC_mono (ask_ok i j hf hs hC H) fun r S1 qq => ?_)
  obtain ⟨rfl, rfl⟩ := qq
  refine wp_neq_f (by omega) ?_
  try(refine zz ?_;(repeat constructor);intro _)
  refine wp_call (wpC_mono (fat_ok i j hf hs hC H) fun r S1 qq => ?_)
  obtain ⟨rfl, rfl⟩ := qq
  refine wp_op (S1 := S1) (v := B false) (by kernel_rfl) ?_
  try(refine zz ?_;(repeat constructor);intro _)
  refine wp_row (j := 0) H i hf rfl ?_
  refine wp_op (v := .agg [I 0, I 1, I 0]) rfl ?_
  refine wp_op (v := .agg [I 0, I 1, I 0]) rfl ?_
  refine wp_boxOwn H rfl fun z S2 H => ?_
  refine wp_storeE (y := .ptr z 0) (i := 0) H (j + 1) (by rw [List.getElem?_cons_succ]; exact hs) (by rw [List.length_replicate]; omega) rfl rfl fun S3 H => ?_
  exact wp_ret ⟨rfl, rfl, _, H.dropAt 0⟩
theorem notes_ok {row ev : List AV} (i j : Nat) (hb : own[i]? = some (.obj bx (.row [.ptr q 0]))) (hq : own[j]? = some (.obj q (.row row))) (h35 : row[35]? = some Ns) (hev : ev.length = 9) (H : Cx B0 W S own ro) :
    wpC EM (notesF bx) [.agg ev] S fun r S' => ∃ v, Cx B0 W S' (.sl v 9 [ev] :: own.set j (.obj q (.row (row.set 35 v)))) ro := by
  refine wpC_fn (b := Tryz.a48) rfl rfl ?_
  rw [Tryz.u48]
  have h35' : 35 < row.length := (List.getElem?_eq_some_iff.1 h35).1
  refine wp_box H rfl fun p S1 H => ?_
  have H : Cx B0 W S1 own (.pt p 0 ev :: ro) := H
  refine wp_row (j := 0) H i hb rfl ?_
  refine wp_row (j := 0) H i hb rfl ?_
  try(refine zz ?_;(repeat constructor);intro _)
  refine wp_row (j := 35) H j hq h35 ?_
  refine wp_ldn (o := 0) (n := 9) H (List.Mem.head _) (Nat.ble_eq_true_of_le (by omega)) ?_
  rw [List.drop_zero, List.take_of_length_le (by omega)]
  refine wp_litsG H [ev] ?_ rfl rfl (by simp [hev]) fun x S2 H => ?_
  · match ev, hev with
    | [a0, a1, a2, a3, a4, a5, a6, a7, a8], _ => rfl
  have H := H.toRo (i := 0) rfl
  have H : Cx B0 W S2 (.sl Ns 9 [] :: own) (.sl x 9 [ev] :: .pt p 0 ev :: ro) := H.addNilS 9
  refine wp_appendR (N := [ev]) H 0 rfl (List.Mem.head _) (by simp [hev]) (by unfold maxBytes; simp) (by unfold maxLenN; simp) fun v S3 H => ?_
  have hv : Fv v := slOk_one (ownSl_ok (H.oh _ (List.Mem.head _)))
  refine wp_cko (o := 0) H (i + 1) (by rw [List.set_cons_zero, List.getElem?_cons_succ]; exact hb) rfl beq_ptr ?_
  try(refine zz ?_;(repeat constructor);intro _)
  refine wp_set1 (j := 35) H (j + 1) (by rw [List.set_cons_zero, List.getElem?_cons_succ]; exact hq) h35' hv fun S4 H => ?_
  exact wp_ret ⟨rfl, v, H.tl.tl⟩
theorem beq_notes : AV.beq (notesF bx) (notesF bx) = true := by simp [notesF, AV.beq, beqs]
theorem begins_ok {c' : List AV} {err a b : Int} {X : List Own} (hp : pOp c' 1 err) (hC : 1 ≤ C ∧ C ≤ 64)
    (H : Cx B0 W S (.obj o (.row c') :: .obj f (.row [fv, Ns, I 0]) :: .sl fv 1 (List.replicate C [Np]) :: .obj m (.row (y.prow bl)) :: .obj bl (.row (y.ws.map U ++ rest)) :: .obj bx (.row [.ptr q 0]) :: .obj q (.row (pwr e u m d f w mp du Ns 0 (notesF bx))) :: .obj mp (.map (ment [])) :: X) ro) :
    wpC EM (.fn (.func 84) [] []) [.ptr q 0, I 0, .ptr o 0, I a, I b] S fun r S' => ∃ hv, Cx B0 W S' (.sl hv 9 [[I 0, B false, I 11, I a, I b, U 0, I 0, I 0, U 0]] :: .obj q (.row (pwr e u m d f w mp du hv 1 (notesF bx))) :: X) ro := by
  refine wpC_fn (b := Tryz.a84) rfl rfl ?_
  rw [Tryz.u84]
  try(refine zz ?_;(repeat constructor);intro _)
  refine wp_row (j := 33) H 6 rfl rfl ?_
  try(refine zz ?_;(repeat constructor);intro _)
  refine wp_row (j := 36) H 6 rfl rfl ?_
  refine wp_op (v := .agg [.ptr o 0, I 0]) rfl ?_
  refine wp_boxOwn H rfl fun z S1 H => ?_
  have H := H.dropAt 0
  have H : Cx B0 W S1 (.obj o (.row c') :: .obj f (.row [fv, Ns, I 0]) :: .sl fv 1 (List.replicate C [Np]) :: .obj m (.row (y.prow bl)) :: .obj bl (.row (y.ws.map U ++ rest)) :: .obj bx (.row [.ptr q 0]) :: .obj q (.row (pwr e u m d f w mp du Ns 0 (notesF bx))) :: .obj mp (.map (ment [])) :: X) ro := H
  refine wp_mapset H 7 kt3 rfl fun S2 H => ?_
  try(refine zz ?_;(repeat constructor);intro _)
  refine wp_row (j := 31) H 6 rfl rfl ?_
  refine wp_call (wpC_mono (pKind_ok 0 rfl hp H) fun r S3 qq => ?_)
  obtain ⟨rfl, rfl⟩ := qq
  refine wp_cko (o := 31) H 6 rfl rfl beq_ptr ?_
  refine wp_call (wpC_mono (fbegin_ok 1 2 rfl rfl hC H) fun r S4 qq => ?_)
  obtain ⟨rfl, L', H⟩ := qq
  try(refine zz ?_;(repeat constructor);intro _)
  refine wp_row (j := 37) H 6 rfl rfl ?_
  try(refine zz ?_;(repeat constructor);intro _)
  refine wp_row (j := 36) H 6 rfl rfl ?_
  refine wp_call (wpC_mono (pKind_ok 0 rfl hp H) fun r S5 qq => ?_)
  obtain ⟨rfl, rfl⟩ := qq
  refine wp_cko (o := 37) H 6 rfl rfl beq_notes ?_
  refine wp_cko (o := 36) H 6 rfl rfl beq_num ?_
  refine wp_add64 (by omega) (by omega) ?_
  refine wp_op (v := .agg [I 11, I a, I b, U 0]) rfl ?_
  refine wp_op (v := .agg [I 0, B false, I 11, I a, I b, U 0, I 0, I 0, U 0]) rfl ?_
  refine wp_call (wpC_mono (notes_ok 5 6 rfl rfl rfl rfl H) fun r S6 ⟨hv, H⟩ => ?_)
  try(refine zz ?_;(repeat constructor);intro _)
  refine wp_row (j := 36) H 7 rfl rfl ?_
  refine wp_add64 (by omega) (by omega) ?_
  try(refine zz ?_;(repeat constructor);intro _)
  refine wp_set1 (j := 36) H 7 rfl (Nat.le_of_ble_eq_true rfl) ⟨rfl, rfl⟩ fun S7 H => ?_
  refine wp_ret ⟨rfl, hv, ?_⟩
  exact H.dropOwn (List.Sublist.cons_cons _ (List.Sublist.cons _ (List.Sublist.cons _ (List.Sublist.cons _ (List.Sublist.cons _ (List.Sublist.cons _ (List.Sublist.cons _ (List.Sublist.cons_cons _ (List.Sublist.cons _ (List.Sublist.refl _))))))))))
end
end Go.Abs.X
set_option linter.unusedSectionVars false
namespace Go.Abs.X
variable [Ek]
open Go.Proofs
set_option maxRecDepth 100000
set_option linter.unusedVariables false
open Tsk (Tk tks tchk)
section
variable {B0 S : AH} {W : List Nat} {own A R X : List Own} {ro : List Fct} {Q : Post} {k : AV → AC} {kc : AC} {x : Wl} {blk : List Own}
  {e : Ex} {u du hi nt fv : AV} {m d f w mp bl bx q C o : Nat} {y : Me} {rest : List AV} {calls : Int} {D : List Fi}
def evOf (f0 : Fi) : List AV := [I 0, B false, I 11, I f0.id, I f0.tm, U 0, I 0, I 0, U 0]
theorem next_ok {l : List Tk} {f0 : Fi} (hu : Fct.sl u 4 (tks l) ∈ ro) (hC : 1 ≤ C ∧ C ≤ 64) (hl : (f0 :: D).length ≤ 4096) (H : Cx B0 W S (wE du (f0 :: D) f fv C m bl y rest bx q (pwr e u m d f w mp du Ns 0 (notesF bx)) mp ++ X) ro) :
    wpC EM (.fn (.func 50) [] []) [.ptr q 0, .agg [I 2, I 0, I 0]] S fun r S' => r = .tup [.agg zero5, I 0] ∧ ∃ hv du2, Cx B0 W S' (.sl hv 9 [evOf f0] :: .obj q (.row (pwr e u m d f w mp du2 hv 1 (notesF bx))) :: X) (.sl du2 2 (fis D) :: ro) := by
  refine wpC_fn (b := Tryz.a50) rfl rfl ?_
  rw [Tryz.u50]
  refine wp_fin ?_
  refine wp_box H rfl fun p S1 H => ?_
  refine wp_alloc H fun z S2 H => ?_
  have H := H.toRo (i := 1) rfl
  have H : Cx B0 W S2 (.obj z (.row zero5) :: .obj f (.row [fv, Ns, I 0]) :: .sl fv 1 (List.replicate C [Np]) :: .obj m (.row (y.prow bl)) :: .obj bl (.row (y.ws.map U ++ rest)) :: .obj bx (.row [.ptr q 0]) :: .obj q (.row (pwr e u m d f w mp du Ns 0 (notesF bx))) :: .obj mp (.map (ment [])) :: X) (.sl du 2 (fis (f0 :: D)) :: .pt p 0 [I 2, I 0, I 0] :: ro) := H
  have md : Fct.sl du 2 (fis (f0 :: D)) ∈ (.sl du 2 (fis (f0 :: D)) :: .pt p 0 [I 2, I 0, I 0] :: ro) := List.Mem.head _
  have mp' : Fct.pt p 0 [I 2, I 0, I 0] ∈ (.sl du 2 (fis (f0 :: D)) :: .pt p 0 [I 2, I 0, I 0] :: ro) := List.Mem.tail _ (List.Mem.head _)
  have mu : Fct.sl u 4 (tks l) ∈ (.sl du 2 (fis (f0 :: D)) :: .pt p 0 [I 2, I 0, I 0] :: ro) := List.Mem.tail _ (List.Mem.tail _ hu)
  have back : ∀ {φ S own}, Cx B0 W S own (φ :: .sl du 2 (fis (f0 :: D)) :: .pt p 0 [I 2, I 0, I 0] :: ro) → Cx B0 W S own (φ :: ro) := fun {φ _ _} H => H.dropRo fun ψ h => by
    rcases List.mem_cons.1 h with rfl | h
    · exact List.Mem.head _
    · exact List.Mem.tail _ (List.Mem.tail _ (List.Mem.tail _ h))
  generalize (.sl du 2 (fis (f0 :: D)) :: .pt p 0 [I 2, I 0, I 0] :: ro) = ro1 at H md mp' mu back
  try(refine zz ?_;(repeat constructor);intro _)
  refine wp_row (j := 34) H 6 rfl rfl ?_
  refine wp_len H md ?_
  rw [fis_len]
  refine wp_bind (wp_loop (wpL_for 0 (fun i vs S' => vs = [I 0, I 0] ∧ Cx B0 W S' (.obj z (.row zero5) :: .obj f (.row [fv, Ns, I 0]) :: .sl fv 1 (List.replicate C [Np]) :: .obj m (.row (y.prow bl)) :: .obj bl (.row (y.ws.map U ++ rest)) :: .obj bx (.row [.ptr q 0]) :: .obj q (.row (pwr e u m d f w mp du Ns 0 (notesF bx))) :: .obj mp (.map (ment [])) :: X) ro1) (fun i vs S hi => absurd hi (by omega)) ?_ ⟨rfl, H⟩))
  clear H
  rintro vs S3 ⟨rfl, H⟩
  refine wp_lss_t (by simp) ?_
  try(refine zz ?_;(repeat constructor);intro _)
  refine wp_bind ?_
  refine wp_saddr H md (i := 0) (x := f0.cs) rfl fun id off H1 => ?_
  refine wp_loada H1 (List.Mem.head _) (by simp [Fi.cs]) ?_
  refine wp_tmpN H rfl rfl rfl fun v11 S4 H => ?_
  have H : Cx B0 W S4 (.obj z (.row zero5) :: .obj f (.row [fv, Ns, I 0]) :: .sl fv 1 (List.replicate C [Np]) :: .obj m (.row (y.prow bl)) :: .obj bl (.row (y.ws.map U ++ rest)) :: .obj bx (.row [.ptr q 0]) :: .obj q (.row (pwr e u m d f w mp du Ns 0 (notesF bx))) :: .obj mp (.map (ment [])) :: X) (.pt v11 0 f0.cs :: ro1) := H
  try(refine zz ?_;(repeat constructor);intro _)
  refine wp_row (j := 34) H 6 rfl rfl ?_
  refine wp_suffix H (List.mem_cons_of_mem _ md) (i := 1) (by rw [fis_len]; simp) fun v16 H => ?_
  have H : Cx B0 W S4 _ (.sl v16 2 (fis D) :: .pt v11 0 f0.cs :: ro1) := H
  refine wp_call (wpC_mono (cloneF_ok (L := D) (H.roSl (List.Mem.head _)) (by simp at hl; omega)) fun du2 S5 K => ?_)
  have H := H.joinA K
  have hd2 : Fv du2 := slOk_one (H.rh _ (List.Mem.head _))
  have H : Cx B0 W S5 (.obj z (.row zero5) :: .obj f (.row [fv, Ns, I 0]) :: .sl fv 1 (List.replicate C [Np]) :: .obj m (.row (y.prow bl)) :: .obj bl (.row (y.ws.map U ++ rest)) :: .obj bx (.row [.ptr q 0]) :: .obj q (.row (pwr e u m d f w mp du Ns 0 (notesF bx))) :: .obj mp (.map (ment [])) :: X) (.sl du2 2 (fis D) :: .sl v16 2 (fis D) :: .pt v11 0 f0.cs :: ro1) := H
  have m11 : Fct.pt v11 0 f0.cs ∈ (.sl du2 2 (fis D) :: .sl v16 2 (fis D) :: .pt v11 0 f0.cs :: ro1) := by repeat (first | exact List.Mem.head _ | apply List.Mem.tail)
  have mp' : Fct.pt p 0 [I 2, I 0, I 0] ∈ (.sl du2 2 (fis D) :: .sl v16 2 (fis D) :: .pt v11 0 f0.cs :: ro1) := List.Mem.tail _ (List.Mem.tail _ (List.Mem.tail _ mp'))
  have mu : Fct.sl u 4 (tks l) ∈ (.sl du2 2 (fis D) :: .sl v16 2 (fis D) :: .pt v11 0 f0.cs :: ro1) := List.Mem.tail _ (List.Mem.tail _ (List.Mem.tail _ mu))
  try(refine zz ?_;(repeat constructor);intro _)
  refine wp_set1 (j := 34) H 6 rfl (Nat.le_of_ble_eq_true rfl) hd2 fun S6 H => ?_
  try(refine zz ?_;(repeat constructor);intro _)
  refine wp_ld (o := 1) H mp' rfl ?_
  try(refine zz ?_;(repeat constructor);intro _)
  refine wp_loadoa (n := 29) H 6 rfl (Nat.le_of_ble_eq_true rfl) ?_
  try(refine zz ?_;(repeat constructor);intro _)
  refine wp_ld (o := 0) H m11 rfl ?_
  try(refine zz ?_;(repeat constructor);intro _)
  refine wp_ld (o := 1) H m11 rfl ?_
  try(refine zz ?_;(repeat constructor);intro _)
  refine wp_ld (o := 0) H m11 rfl ?_
  try(refine zz ?_;(repeat constructor);intro _)
  refine wp_ld (o := 1) H m11 rfl ?_
  refine wp_call (wpC_mono (newRelease_ok (e := e) (v := u) (l := l) (t := (f0.id : Int)) (now := (f0.tm : Int)) mu H) fun r S7 ⟨o, c', hr, hp, H⟩ => ?_)
  subst hr
  refine wp_ck (o := 1) H mp' rfl beq_num ?_
  refine wp_ck (o := 0) H m11 rfl beq_num ?_
  refine wp_ck (o := 1) H m11 rfl beq_num ?_
  have H : Cx B0 W S7 (.obj o (.row c') :: .obj f (.row [fv, Ns, I 0]) :: .sl fv 1 (List.replicate C [Np]) :: .obj m (.row (y.prow bl)) :: .obj bl (.row (y.ws.map U ++ rest)) :: .obj bx (.row [.ptr q 0]) :: .obj q (.row (pwr e u m d f w mp du2 Ns 0 (notesF bx))) :: .obj mp (.map (ment [])) :: .obj z (.row zero5) :: X) (.sl du2 2 (fis D) :: .sl v16 2 (fis D) :: .pt v11 0 f0.cs :: ro1) :=
    H.permS (List.Perm.cons _ (swap1 (P := .obj z (.row zero5)) (A := [.obj f (.row [fv, Ns, I 0]), .sl fv 1 (List.replicate C [Np]), .obj m (.row (y.prow bl)), .obj bl (.row (y.ws.map U ++ rest)), .obj bx (.row [.ptr q 0]), .obj q (.row (pwr e u m d f w mp du2 Ns 0 (notesF bx))), .obj mp (.map (ment []))]) (R := X)))
  refine wp_call (wpC_mono (begins_ok (a := (f0.id : Int)) (b := (f0.tm : Int)) hp hC H) fun r S8 ⟨hv, H⟩ => ?_)
  refine wp_op (v := .agg zero5) rfl ?_
  refine wp_store (n := 5) H 2 (c := zero5) rfl rfl rfl (by simp [zero5]) fun S9 H => ?_
  refine wp_ret ⟨by simp, .inr rfl, ?_⟩
  have H : Cx B0 W S9 (.sl hv 9 [evOf f0] :: .obj q (.row (pwr e u m d f w mp du2 hv 1 (notesF bx))) :: .obj z (.row zero5) :: X) (.sl du2 2 (fis D) :: .sl v16 2 (fis D) :: .pt v11 0 f0.cs :: ro1) := H
  refine wp_loadoa (n := 5) H 2 rfl (by simp [zero5]) ?_
  refine wp_ret ⟨rfl, rfl, hv, du2, ?_⟩
  have H := H.dropAt 2
  exact back (H.dropRo fun ψ h => by
    rcases List.mem_cons.1 h with rfl | h
    · exact List.Mem.head _
    · exact List.Mem.tail _ (List.Mem.tail _ (List.Mem.tail _ h)))
/-! ### what is asked of a world -/
theorem due_ok {row : List AV} (i : Nat) (hq : own[i]? = some (.obj q (.row row))) (h29 : row[29]? = some (.ptr m 0)) (h34 : row[34]? = some du) (hd : RoSl S du 2 (fis D)) (hl : D.length ≤ 100000) (H : Cx B0 W S own ro) :
    wpC EM (.fn (.func 11) [] []) [.ptr q 0] S fun r S' => Cx B0 W S' own (.sl r 2 (fis D) :: ro) := by
  refine wpC_fn (b := Tryz.a11) rfl rfl ?_
  rw [Tryz.u11]
  refine wp_call (wpC_mono (wnone_ok i hq h29 H) fun r S1 qq => ?_)
  obtain ⟨rfl, rfl⟩ := qq
  try(refine zz ?_;(repeat constructor);intro _)
  refine wp_row (j := 34) H i hq h34 ?_
  refine wp_call (wpC_mono (cloneF_ok (L := D) hd hl) fun r S2 K => ?_)
  exact wp_ret ⟨rfl, H.joinA K⟩
theorem history_ok {row a : List AV} (ha : a.length = 9) (i : Nat) (hq : own[i]? = some (.obj q (.row row))) (h29 : row[29]? = some (.ptr m 0)) (h35 : row[35]? = some hi) (hd : RoSl S hi 9 [a]) (H : Cx B0 W S own ro) :
    wpC EM (.fn (.func 14) [] []) [.ptr q 0] S fun r S' => Cx B0 W S' own (.sl r 9 [a] :: ro) := by
  refine wpC_fn (b := Tryz.a14) rfl rfl ?_
  rw [Tryz.u14]
  refine wp_call (wpC_mono (wnone_ok i hq h29 H) fun r S1 qq => ?_)
  obtain ⟨rfl, rfl⟩ := qq
  try(refine zz ?_;(repeat constructor);intro _)
  refine wp_row (j := 35) H i hq h35 ?_
  refine wp_call (wpC_mono (cloneE_ok ha hd) fun r S2 K => ?_)
  exact wp_ret ⟨rfl, H.joinA K⟩
theorem exec_ok {l : List Tk} (i : Nat) (hq : own[i]? = some (.obj q (.row (pwr e u m d f w mp du hi calls nt)))) (hu : Fct.sl u 4 (tks l) ∈ ro) (hl : l.length ≤ 100000) (H : Cx B0 W S own ro) :
    wpC EM (.fn (.func 8) [] []) [.ptr q 0] S fun r S' => ∃ u2, r = .agg (e.cs u2) ∧ Cx B0 W S' own (.sl u2 4 (tks l) :: ro) := by
  refine wpC_fn (b := Tryz.a8) rfl rfl ?_
  rw [Tryz.u8]
  refine wp_fin ?_
  refine wp_alloc H fun z S1 H => ?_
  refine wp_call (wpC_mono (wnone_ok (i + 1) (by rw [List.getElem?_cons_succ]; exact hq) rfl H) fun r S1 qq => ?_)
  obtain ⟨rfl, rfl⟩ := qq
  try(refine zz ?_;(repeat constructor);intro _)
  refine wp_loadoa (n := 29) H (i + 1) (by rw [List.getElem?_cons_succ]; exact hq) (Nat.le_of_ble_eq_true rfl) ?_
  refine wp_alloc H fun z2 S2 H => ?_
  refine wp_store (n := 29) H 0 rfl rfl rfl (Nat.le_of_ble_eq_true rfl) fun S3 H => ?_
  have H : Cx B0 W S3 (.obj z2 (.row (e.cs u)) :: .obj z (.row [I 0, I 0, I 0, I 0, I 0, I 0, I 0, I 0, I 0, I 0, I 0, I 0, I 0, I 0, I 0, I 0, I 0, I 0, I 0, I 0, I 0, I 0, I 0, I 0, I 0, I 0, I 0, I 0, Ns]) :: own) ro := H
  try(refine zz ?_;(repeat constructor);intro _)
  refine wp_row (j := 28) H (i + 2) (by rw [List.getElem?_cons_succ, List.getElem?_cons_succ]; exact hq) rfl ?_
  refine wp_call (wpC_mono (cloneT_ok (l := l) (H.roSl hu) hl) fun u2 S4 K => ?_)
  have H := H.joinA K
  have hu2 : Fv u2 := slOk_one (H.rh _ (List.Mem.head _))
  try(refine zz ?_;(repeat constructor);intro _)
  refine wp_set1 (j := 28) H 0 rfl (Nat.le_of_ble_eq_true rfl) hu2 fun S5 H => ?_
  have H : Cx B0 W S5 (.obj z2 (.row (e.cs u2)) :: .obj z (.row [I 0, I 0, I 0, I 0, I 0, I 0, I 0, I 0, I 0, I 0, I 0, I 0, I 0, I 0, I 0, I 0, I 0, I 0, I 0, I 0, I 0, I 0, I 0, I 0, I 0, I 0, I 0, I 0, Ns]) :: own) (.sl u2 4 (tks l) :: ro) := H
  refine wp_loadoa (n := 29) H 0 rfl (Nat.le_of_ble_eq_true rfl) ?_
  refine wp_store (n := 29) H 1 rfl rfl rfl (Nat.le_of_ble_eq_true rfl) fun S6 H => ?_
  have H : Cx B0 W S6 (.obj z2 (.row (e.cs u2)) :: .obj z (.row (e.cs u2)) :: own) (.sl u2 4 (tks l) :: ro) := H
  refine wp_ret ⟨.inr rfl, ?_⟩
  refine wp_loadoa (n := 29) H 1 rfl (Nat.le_of_ble_eq_true rfl) ?_
  exact wp_ret ⟨rfl, u2, rfl, (H.dropAt 0).dropAt 0⟩
end
end Go.Abs.X
set_option linter.unusedSectionVars false
namespace Go.Abs.X
variable [Ek]
open Go.Proofs
set_option maxRecDepth 100000
set_option linter.unusedVariables false
open Tsk (Tk tks tchk)
section
variable {B0 S : AH} {W : List Nat} {own A R X : List Own} {ro : List Fct} {Q : Post} {k : AV → AC} {kc : AC} {x : Wl} {blk : List Own}
  {e : Ex} {u du hi nt fv : AV} {m d f w mp bl bx q C o : Nat} {y : Me} {rest : List AV} {calls : Int} {D : List Fi}
def mvTab : List AV := [Nf, .fn (.func 49) [] [], .fn (.func 50) [] [], .fn (.func 51) [] [], .fn (.func 52) [] [], .fn (.func 53) [] [], .fn (.func 54) [] [], .fn (.func 55) [] [], .fn (.func 56) [] [], .fn (.func 57) [] []]
theorem moves_ok : wpC EM (.fn (.func 27) [] []) [] S fun r S' => r = .agg mvTab ∧ Grows S S' := by
  refine wpC_fn (b := Tryz.a27) rfl rfl ?_
  have H : Cx S [] S [] [] := Cx.enter (by simp)
  rw [Tryz.u27]
  refine wp_fin ?_
  refine wp_alloc H fun z S4 H => ?_
  refine wp_op (v := .agg mvTab) rfl ?_
  refine wp_store (n := 10) H 0 (c := [Nf, Nf, Nf, Nf, Nf, Nf, Nf, Nf, Nf, Nf]) rfl rfl rfl (by simp) fun S5 H => ?_
  refine wp_ret ⟨.inr rfl, ?_⟩
  refine wp_loadoa (n := 10) H 0 rfl (Nat.le_of_ble_eq_true rfl) ?_
  exact wp_ret ⟨rfl, rfl, H.grows⟩
theorem doTick_ok {l : List Tk} {n : Nat} {M A : List Fi} (hu : Fct.sl u 4 (tks l) ∈ ro) (hc : tchk l = 0) (hx : x.now + n ≤ 1200) (hm : mayE x ((x.now + n : Nat) : Int) = 0) (hr : runM l ((x.now + n : Nat) : Int) 4097 x.L = some (M, A)) (hl : D.length + A.length ≤ 4000)
    (h : WRep w x blk) (H : Cx B0 W S (wE du D f fv C m bl y rest bx q (pwr e u m d f w mp du hi calls nt) mp ++ (blk ++ R)) ro) :
    wpC EM (.fn (.func 7) [] []) [.ptr q 0, .agg [I 8, I 0, I (n : Int)]] S fun r S' => r = .tup [.agg (moved A.length), I 0] ∧ ∃ w' du' blk', WRep w' ⟨x.now + n, M⟩ blk' ∧ Cx B0 W S' (wE du' (D ++ A) f fv C m bl y rest bx q (pwr e u m d f w' mp du' hi calls nt) mp ++ (blk' ++ R)) ro := by
  refine wpC_fn (b := Tryz.a7) rfl rfl ?_
  rw [Tryz.u7]
  refine wp_fin ?_
  refine wp_box H rfl fun p S1 H => ?_
  refine wp_alloc H fun z S2 H => ?_
  have H : Cx B0 W S2 (.obj z (.row zero5) :: (wE du D f fv C m bl y rest bx q (pwr e u m d f w mp du hi calls nt) mp ++ (blk ++ R))) (.pt p 0 [I 8, I 0, I (n : Int)] :: ro) := H
  have mp' : Fct.pt p 0 [I 8, I 0, I (n : Int)] ∈ (.pt p 0 [I 8, I 0, I (n : Int)] :: ro) := List.Mem.head _
  refine wp_call (wpC_mono (wnone_ok 7 rfl rfl H) fun r S3 qq => ?_)
  obtain ⟨rfl, rfl⟩ := qq
  try(refine zz ?_;(repeat constructor);intro _)
  refine wp_ld (o := 0) H mp' rfl ?_
  refine wp_lss_f (by decide) ?_
  try(refine zz ?_;(repeat constructor);intro _)
  refine wp_ld (o := 0) H mp' rfl ?_
  try(refine zz ?_;(repeat constructor);intro _)
  refine wp_gtr_f (by decide) ?_
  try(refine zz ?_;(repeat constructor);intro _)
  refine wp_ld (o := 0) H mp' rfl ?_
  refine wp_lss_f (by decide) ?_
  refine wp_bind ?_
  try(refine zz ?_;(repeat constructor);intro _)
  refine wp_ret ?_
  show wp EM _ _ _
  refine wp_callV H moves_ok fun S4 H => ?_
  refine wp_tmpN H rfl rfl rfl fun z2 S5 H => ?_
  have H : Cx B0 W S5 (.obj z (.row zero5) :: (wE du D f fv C m bl y rest bx q (pwr e u m d f w mp du hi calls nt) mp ++ (blk ++ R))) (.pt z2 0 mvTab :: .pt p 0 [I 8, I 0, I (n : Int)] :: ro) := H
  try(refine zz ?_;(repeat constructor);intro _)
  refine wp_ld (o := 0) H (List.Mem.tail _ mp') rfl ?_
  refine wp_paddr (i := 8) (by decide) ?_
  refine wp_ld (o := 8) H (List.Mem.head _) rfl ?_
  refine wp_ldn (o := 0) (n := 3) H (List.Mem.tail _ mp') rfl ?_
  have H := H.permS permIn
  refine wp_call (wpC_mono (tick_ok (R := .obj z (.row zero5) :: R) (List.Mem.tail _ (List.Mem.tail _ hu)) hc hx hm hr hl h H) fun r S7 qq => ?_)
  obtain ⟨rfl, w', du', blk', h', H⟩ := qq
  try(refine zz ?_;(repeat constructor);intro _)
  have H := (H.permS permIn.symm).tl.tl
  refine wp_store (n := 5) H 0 (c := zero5) rfl rfl rfl (by simp [zero5]) fun S8 H => ?_
  have H : Cx B0 W S8 (.obj z (.row (moved A.length)) :: (wE du' (D ++ A) f fv C m bl y rest bx q (pwr e u m d f w' mp du' hi calls nt) mp ++ (blk' ++ R))) ro := H
  refine wp_ret ⟨.inr rfl, ?_⟩
  refine wp_loadoa (n := 5) H 0 rfl (by simp [moved]) ?_
  exact wp_ret ⟨rfl, rfl, w', du', blk', h', H.dropAt 0⟩
theorem idle_ok (hc : e.rcores = (C : Int)) (hC : 1 ≤ C) (i j : Nat) (hq : own[i]? = some (.obj q (.row (pwr e u m d f w mp du hi calls nt)))) (hm : own[j]? = some (.obj mp (.map (ment [])))) (H : Cx B0 W S own ro) :
    wpC EM (.fn (.func 26) [] []) [.ptr q 0, I 0] S fun r S' => r = I 0 ∧ S' = S := by
  refine wpC_fn (b := Tryz.a26) rfl rfl ?_
  rw [Tryz.u26]
  refine wp_lss_f (by omega) ?_
  try(refine zz ?_;(repeat constructor);intro _)
  refine wp_row (j := 25) H i hq rfl ?_
  refine wp_gop_t (wp_geq_f (by rw [hc]; omega) ?_)
  try(refine zz ?_;(repeat constructor);intro _)
  refine wp_row (j := 33) H i hq rfl ?_
  refine wp_lookup2 H j kt3 hm ?_
  try(refine zz ?_;(repeat constructor);intro _)
  exact wp_ret ⟨rfl, rfl, rfl⟩
theorem doDue_ok {l : List Tk} {f0 : Fi} (hc : e.rcores = (C : Int)) (hu : Fct.sl u 4 (tks l) ∈ ro) (hC : 1 ≤ C ∧ C ≤ 64) (hl : (f0 :: D).length ≤ 4096) (H : Cx B0 W S (wE du (f0 :: D) f fv C m bl y rest bx q (pwr e u m d f w mp du Ns 0 (notesF bx)) mp ++ X) ro) :
    wpC EM (.fn (.func 7) [] []) [.ptr q 0, .agg [I 2, I 0, I 0]] S fun r S' => r = .tup [.agg zero5, I 0] ∧ ∃ hv du2, Cx B0 W S' (.sl hv 9 [evOf f0] :: .obj q (.row (pwr e u m d f w mp du2 hv 1 (notesF bx))) :: X) (.sl du2 2 (fis D) :: ro) := by
  refine wpC_fn (b := Tryz.a7) rfl rfl ?_
  rw [Tryz.u7]
  refine wp_fin ?_
  refine wp_box H rfl fun p S1 H => ?_
  refine wp_alloc H fun z S2 H => ?_
  have H : Cx B0 W S2 (.obj z (.row zero5) :: (wE du (f0 :: D) f fv C m bl y rest bx q (pwr e u m d f w mp du Ns 0 (notesF bx)) mp ++ X)) (.pt p 0 [I 2, I 0, I 0] :: ro) := H
  have mp' : Fct.pt p 0 [I 2, I 0, I 0] ∈ (.pt p 0 [I 2, I 0, I 0] :: ro) := List.Mem.head _
  refine wp_call (wpC_mono (wnone_ok 7 rfl rfl H) fun r S3 qq => ?_)
  obtain ⟨rfl, rfl⟩ := qq
  try(refine zz ?_;(repeat constructor);intro _)
  refine wp_ld (o := 0) H mp' rfl ?_
  refine wp_lss_f (by decide) ?_
  try(refine zz ?_;(repeat constructor);intro _)
  refine wp_ld (o := 0) H mp' rfl ?_
  try(refine zz ?_;(repeat constructor);intro _)
  refine wp_gtr_f (by decide) ?_
  try(refine zz ?_;(repeat constructor);intro _)
  refine wp_ld (o := 0) H mp' rfl ?_
  refine wp_lss_t (by decide) ?_
  refine wp_bind ?_
  try(refine zz ?_;(repeat constructor);intro _)
  refine wp_ld (o := 1) H mp' rfl ?_
  refine wp_call (wpC_mono (idle_ok hc hC.1 7 8 rfl rfl H) fun r S4 qq => ?_)
  obtain ⟨rfl, rfl⟩ := qq
  refine wp_neq_f (by omega) ?_
  try(refine zz ?_;(repeat constructor);intro _)
  refine wp_ret ?_
  show wp EM _ _ _
  refine wp_callV H moves_ok fun S4 H => ?_
  refine wp_tmpN H rfl rfl rfl fun z2 S5 H => ?_
  have H : Cx B0 W S5 (.obj z (.row zero5) :: (wE du (f0 :: D) f fv C m bl y rest bx q (pwr e u m d f w mp du Ns 0 (notesF bx)) mp ++ X)) (.pt z2 0 mvTab :: .pt p 0 [I 2, I 0, I 0] :: ro) := H
  try(refine zz ?_;(repeat constructor);intro _)
  refine wp_ld (o := 0) H (List.Mem.tail _ mp') rfl ?_
  refine wp_paddr (i := 2) (by decide) ?_
  refine wp_ld (o := 2) H (List.Mem.head _) rfl ?_
  refine wp_ldn (o := 0) (n := 3) H (List.Mem.tail _ mp') rfl ?_
  have H := H.permS swap1
  refine wp_call (wpC_mono (next_ok (X := .obj z (.row zero5) :: X) (List.Mem.tail _ (List.Mem.tail _ hu)) hC hl H) fun r S7 qq => ?_)
  obtain ⟨rfl, hv, du2, H⟩ := qq
  try(refine zz ?_;(repeat constructor);intro _)
  refine wp_store (n := 5) H 2 (c := zero5) rfl rfl rfl (by simp [zero5]) fun S8 H => ?_
  have H : Cx B0 W S8 (.sl hv 9 [evOf f0] :: .obj q (.row (pwr e u m d f w mp du2 hv 1 (notesF bx))) :: .obj z (.row zero5) :: X) (.sl du2 2 (fis D) :: .pt z2 0 mvTab :: .pt p 0 [I 2, I 0, I 0] :: ro) := H
  refine wp_ret ⟨.inr rfl, ?_⟩
  refine wp_loadoa (n := 5) H 2 rfl (by simp [zero5]) ?_
  refine wp_ret ⟨rfl, rfl, hv, du2, ?_⟩
  have H := H.dropAt 2
  exact H.dropRo fun ψ h => by
    rcases List.mem_cons.1 h with rfl | h
    · exact List.Mem.head _
    · exact List.Mem.tail _ (List.Mem.tail _ (List.Mem.tail _ h))
theorem among_ok {v : AV} {l : List Int} {a : Int} (hv : Fct.sl v 1 (ints l) ∈ ro) (ha : a ∈ l) (hl : l.length ≤ 100000) (H : Cx B0 W S own ro) : wpC EM (.fn (.func 12) [] []) [v, I a] S fun r S' => r = B true ∧ Cx B0 W S' own ro := by
  refine wpC_fn (b := Tryz.a12) rfl rfl ?_
  rw [Tryz.u12]
  refine wp_bind (wp_loop (wpL_for l.length (fun i vs S' => ∃ b, vs = [I (i : Int), b] ∧ a ∉ l.take i ∧ Cx B0 W S' own ro) ?_ ?_ ⟨_, rfl, by simp, H⟩))
  · rintro i vs S1 hi ⟨b, rfl, hno, H⟩
    refine wp_len H hv ?_
    rw [ints_len]
    refine wp_lss_t (by omega) ?_
    try(refine zz ?_;(repeat constructor);intro _)
    refine wp_bind ?_
    have hl : l[i]? = some l[i] := List.getElem?_eq_getElem hi
    generalize l[i] = c at hl
    refine wp_saddr H hv (ints_at hl) fun id off H1 => ?_
    refine wp_load0 H1 (List.Mem.head _) rfl ?_
    refine wp_eql (fun he => ?_) (fun he => ?_)
    · try(refine zz ?_;(repeat constructor);intro _)
      refine wp_ret (.inr ⟨by simp, ?_⟩)
      exact ⟨rfl, rfl, H⟩
    · try(refine zz ?_;(repeat constructor);intro _)
      refine wp_ret ?_
      show wp EM _ _ _
      refine wp_add64 (by omega) (by omega) ?_
      refine wp_ret (.inl ⟨rfl, b, rfl, fun hm => ?_, H⟩)
      rw [take_snoc hl] at hm
      rcases List.mem_append.1 hm with hm | hm
      · exact hno hm
      · rw [List.mem_singleton] at hm; exact he hm.symm
  · rintro vs S1 ⟨b, rfl, hno, H⟩
    rw [List.take_length] at hno
    exact absurd ha hno
end
end Go.Abs.X
set_option linter.unusedSectionVars false
namespace Go.Abs.X
variable [Ek]
open Go.Proofs
set_option maxRecDepth 100000
set_option linter.unusedVariables false
open Tsk (Tk tks tchk timed since many count allN dueN isNow)
section
variable {S : AH}
theorem sameF_ok {a b : AV} {L : List Fi} (ha : RoSl S a 2 (fis L)) (hb : RoSl S b 2 (fis L)) (hl : L.length < 1000000) :
    wpC EM (.fn (.func 15) [] []) [a, b] S fun r S' => r = B true ∧ Grows S S' := by
  refine wpC_fn (b := Tryz.a15) rfl rfl ?_
  have H := Cx.ro2 ha hb
  rw [Tryz.u15]
  refine wp_len H (by repeat (first | exact List.Mem.head _ | apply List.Mem.tail)) ?_
  refine wp_len H (by repeat (first | exact List.Mem.head _ | apply List.Mem.tail)) ?_
  refine wp_eql_t rfl ?_
  skip
  refine wp_bind (wp_loop (wpL_inv (fun m vs S1 => ∃ (i : Nat), vs = [I (i : Int), B true] ∧ i ≤ L.length ∧ m = L.length - i ∧ Cx S [] S1 [] [.sl a 2 (fis L), .sl b 2 (fis L)]) ?_ L.length ⟨0, rfl, by omega, by omega, H⟩))
  rintro m vs S1 ⟨i, rfl, hi, rfl, H⟩
  try(refine zz ?_;(repeat constructor);intro _)
  refine wp_len H (by repeat (first | exact List.Mem.head _ | apply List.Mem.tail)) ?_
  rw [fis_len]
  skip
  try(refine zz ?_;(repeat constructor);intro _)
  refine wp_lss (fun hlt => ?_) (fun hge => ?_)
  · have hlt : i < L.length := by omega
    try(refine zz ?_;(repeat constructor);intro _)
    refine wp_bind ?_
    skip
    refine wp_saddr (v := a) (L := fis L) (i := i) H (by repeat (first | exact List.Mem.head _ | apply List.Mem.tail)) (fis_get hlt) fun q qo H1 => ?_
    refine wp_loada (n := 2) H1 (cs := L[i].cs) (by repeat (first | exact List.Mem.head _ | apply List.Mem.tail)) (Nat.le_refl _) ?_
    refine wp_saddr (v := b) (L := fis L) (i := i) H1.tl (by repeat (first | exact List.Mem.head _ | apply List.Mem.tail)) (fis_get hlt) fun q2 qo2 H2 => ?_
    refine wp_loada (n := 2) H2 (cs := L[i].cs) (by repeat (first | exact List.Mem.head _ | apply List.Mem.tail)) (Nat.le_refl _) ?_
    refine wp_op e_eqF ?_
    refine wp_ret ?_
    show wp EM _ _ _
    skip
    refine wp_add64 (by omega) (by omega) (wp_ret (.inl ⟨rfl, L.length - (i + 1), by omega, i + 1, by simp [nth], by omega, rfl, H2.tl⟩))
  · try(refine zz ?_;(repeat constructor);intro _)
    refine wp_ret (.inr ⟨by simp, ?_⟩)
    show wp EM _ _ _
    exact wp_ret ⟨rfl, rfl, H.grows⟩
end
theorem isNow_isT {t : Tk} {a : Nat} (h : isT t a) : isNow t a = true := by
  obtain ⟨h1, i, h2, h3, h4⟩ := h
  have hT := Tsk.timed_ok h1
  have h5 := Tsk.since_time hT h2 h3
  unfold isNow
  rw [h4, h5]
  exact decide_eq_true ⟨h1, h3, rfl⟩
theorem mem_dueN {l : List Tk} {now : Int} : ∀ {n : Nat}, n ≤ l.length → ∀ {i : Nat} {t : Tk}, i < n → l[i]? = some t → isNow t now = true → (i : Int) ∈ dueN l now n
  | 0, _, _, _, h, _, _ => absurd h (by omega)
  | n + 1, hn, i, t, hi, ht, hw => by
    rw [Tsk.dueN_succ (by omega)]
    by_cases e : i = n
    · subst e
      have : l[i] = t := (List.getElem?_eq_some_iff.1 ht).2
      rw [this, if_pos hw]
      exact List.mem_append_right _ (List.mem_singleton.2 rfl)
    · have := mem_dueN (n := n) (by omega) (show i < n by omega) ht hw
      split
      · exact List.mem_append_left _ this
      · exact this
end Go.Abs.X
namespace Go.Abs.X
variable [Ek]
open Go.Proofs
set_option maxRecDepth 100000
set_option linter.unusedVariables false
open Tsk (Tk tks tchk allN)
/-! ### the statement -/
theorem playTicks_ok (hb : Ek.b = true) {S : AH} {v vb : AV} {nums by' : List Int} (hv : RoSl S v 1 (ints nums)) (hvb : RoSl S vb 1 (ints by')) : wpC EM (.fn (.func 3) [] []) [v, vb] S fun r _ => r = B true := by
  refine wpC_fn (b := Tryz.a3) rfl rfl ?_
  have H := Cx.ro2 hv hvb
  unfold Tryz.a3 Tryz.a3x30 Tryz.a3x29 Tryz.a3x28 Tryz.a3x27 Tryz.a3x26 Tryz.a3x25 Tryz.a3x24 Tryz.a3x23 Tryz.a3x22 Tryz.a3x21 Tryz.a3x20 Tryz.a3x19 Tryz.a3x18 Tryz.a3x17 Tryz.a3x16 Tryz.a3x15 Tryz.a3x14 Tryz.a3x13 Tryz.a3x12 Tryz.a3x11 Tryz.a3x10 Tryz.a3x9 Tryz.a3x8 Tryz.a3x7 Tryz.a3x6 Tryz.a3x5 Tryz.a3x4 Tryz.a3x3 Tryz.a3x2 Tryz.a3x1 Tryz.a3x0 
  refine wp_call (wpC_kn (v := B true) (by show knB Ek.b 4 [] = _; rw [hb]; rfl) ?_)
  refine wp_len H (v := vb) (es := 1) (L := ints by') (by repeat (first | exact List.Mem.head _ | apply List.Mem.tail)) ?_
  rw [ints_len]
  by_cases hbig : (20 : Int) < by'.length
  · refine wp_gtr_t (by omega) ?_
    try(refine zz ?_;(repeat constructor);intro _)
    exact wp_ret ⟨rfl, rfl⟩
  refine wp_gtr_f (by omega) ?_
  try(refine zz ?_;(repeat constructor);intro _)
  refine wp_call (wpC_mono (world_ok (nums := nums) (by repeat (first | exact List.Mem.head _ | apply List.Mem.tail)) H) fun r S1 qq => ?_)
  obtain ⟨p, e, n, u0, N, C, h, J, Rm, lim, g, j, mf, rr, f, fv, m, bl, y, rest, bx, q, d, w, mp, u, blk, rfl, hn, hpe, L, hW, H⟩ := qq
  obtain ⟨LN, LC, _, _, _, _, _, _, _, _, _, _, _⟩ := id L
  have hchk := smL_chk hpe hn.2
  have hlen := smL_len p e n
  have mu : Fct.sl u 4 (tks (smL p e n)) ∈ [Fct.sl u 4 (tks (smL p e n)), .sl v 1 (ints nums), .sl vb 1 (ints by')] := by repeat (first | exact List.Mem.head _ | apply List.Mem.tail)
  have mb : Fct.sl vb 1 (ints by') ∈ [Fct.sl u 4 (tks (smL p e n)), .sl v 1 (ints nums), .sl vb 1 (ints by')] := by repeat (first | exact List.Mem.head _ | apply List.Mem.tail)
  generalize [Fct.sl u 4 (tks (smL p e n)), Fct.sl v 1 (ints nums), .sl vb 1 (ints by')] = ro at H mu mb
  generalize hE : exV N C h n J Rm lim g j mf rr = E at H
  have hcores : E.rcores = (C : Int) := by rw [← hE]; rfl
  clear hE
  refine wp_op (e_ptrNil (by kernel_rfl)) ?_
  try(refine zz ?_;(repeat constructor);intro _)
  have h0 := tks_zero (l := smL p e n) (by omega)
  rw [hlen] at h0
  have hall : ∀ a b, Tsk.all (smL p e n) a b = allN (smL p e n) a b n := by
    intro a b
    unfold Tsk.all
    rw [if_pos hchk, hlen]
  refine wp_bind (wp_loop (wpL_for by'.length (fun k vs S' => ∃ (b fr : AV) (now : Nat) (x : Wl) (D : List Fi) (du : AV) (w : Nat) (blk : List Own), vs = [I (k : Int), b, I (now : Int), fr] ∧ Tks (smL p e n) now k x D ∧ now ≤ 59 * k ∧ D.length ≤ 4000 ∧ WRep w x blk ∧
    Cx S [] S' (wE du D f fv C m bl y rest bx q (pwr E u m d f w mp du Ns 0 (notesF bx)) mp ++ (blk ++ [])) ro) ?_ ?_ ⟨_, _, 0, _, [], Ns, w, blk, rfl, h0, by omega, by simp, hW, H⟩))
  · clear H hW h0
    rintro k vs S2 hk ⟨b, fr, now, x, D, du, w, blk, rfl, hT, hnow, hD4, hW, H⟩
    refine wp_len H mb ?_
    rw [ints_len]
    refine wp_lss_t (by omega) ?_
    try(refine zz ?_;(repeat constructor);intro _)
    refine wp_bind ?_
    have hb : by'[k]? = some by'[k] := List.getElem?_eq_getElem hk
    generalize by'[k] = a at hb
    refine wp_saddr H mb (ints_at hb) fun id off H1 => ?_
    refine wp_load0 H1 (List.Mem.head _) rfl ?_
    refine wp_Pk H (by omega) fun S3 H => ?_
    have hpk := pick_bd (a := a) (n := 60) (by omega)
    obtain ⟨mm, hmm⟩ : ∃ mm : Nat, pick a 60 = (mm : Int) := ⟨(pick a 60).toNat, by omega⟩
    rw [hmm]
    have hlt : now + mm ≤ 1199 := by omega
    obtain ⟨M, A, r1, r2, r3, r4, r5⟩ := tks_step (m := mm) hn.2 hT hlt
    have hclk := hT.clk
    refine wp_op (v := .agg [I 8, I 0, I (mm : Int)]) rfl ?_
    rw [← hclk] at r1 r2
    refine wp_call (wpC_mono (doTick_ok (l := smL p e n) (n := mm) mu hchk (by omega) r2 r1 r5 hW H) fun r S4 qq => ?_)
    obtain ⟨rfl, w', du', blk', hW', H⟩ := qq
    rw [hclk] at hW'
    try(refine zz ?_;(repeat constructor);intro _)
    refine wp_tmpN H rfl rfl rfl fun z S5 H => ?_
    have H : Cx S [] S5 (wE du' (D ++ A) f fv C m bl y rest bx q (pwr E u m d f w' mp du' Ns 0 (notesF bx)) mp ++ (blk' ++ [])) (.pt z 0 (moved A.length) :: ro) := H
    refine wp_call (wpC_mono (exec_ok (l := smL p e n) 6 rfl (List.mem_cons_of_mem _ mu) (by omega) H) fun r S6 ⟨u2, hr, H⟩ => ?_)
    subst hr
    have H : Cx S [] S6 (wE du' (D ++ A) f fv C m bl y rest bx q (pwr E u m d f w' mp du' Ns 0 (notesF bx)) mp ++ (blk' ++ [])) (.sl u2 4 (tks (smL p e n)) :: .pt z 0 (moved A.length) :: ro) := H
    refine wp_op (v := u2) rfl ?_
    refine wp_add64 (by omega) (by omega) ?_
    have tail : ∀ (fr2 : Int), fr2 = (if k = 0 then (0 : Int) else (now : Int) + 1) → wp EM (Tryz.a3x3 (.ptr q 0) [I (k : Int), b, I (now : Int), fr] (I (mm : Int)) (I 0) (.ptr z 0) u2 [I fr2]) S6 fun tg vs S' => tg = .normal ∧ vs = [b, I ((now + mm : Nat) : Int), I fr2] ∧
        Cx S [] S' (wE du' (D ++ A) f fv C m bl y rest bx q (pwr E u m d f w' mp du' Ns 0 (notesF bx)) mp ++ (blk' ++ [])) ro := by
      intro fr2 hfr
      unfold Tryz.a3x3 Tryz.a3x2 Tryz.a3x1 
      refine wp_add64 (by omega) (by omega) ?_
      refine wp_neq_f (by omega) ?_
      try(refine zz ?_;(repeat constructor);intro _)
      refine wp_call (wpC_mono (wnow_ok 6 rfl rfl rfl hW' H) fun r S7 qq => ?_)
      obtain ⟨rfl, H⟩ := qq
      refine wp_gop_t (wp_neq_f (by show ((now + mm : Nat) : Int) = (now : Int) + mm; omega) ?_)
      try(refine zz ?_;(repeat constructor);intro _)
      refine wp_ld (o := 0) H (List.Mem.tail _ (List.Mem.head _)) rfl ?_
      try(refine zz ?_;(repeat constructor);intro _)
      refine wp_add64 (by omega) (by omega) ?_
      try(refine zz ?_;(repeat constructor);intro _)
      refine wp_callV H (Tsk.all_ok (l := smL p e n) (H.roSl (List.Mem.head _))) fun S8 H => ?_
      refine wp_gchk_t (wp_ck (o := 0) H (List.Mem.tail _ (List.Mem.head _)) rfl beq_num ?_)
      rw [hall, hfr, show (now : Int) + (mm : Int) + 1 = ((now + mm : Nat) : Int) + 1 by omega]
      refine wp_gop_t (wp_neq_f r4 ?_)
      try(refine zz ?_;(repeat constructor);intro _)
      refine wp_ret ⟨rfl, ?_, H.tl.tl⟩
      rw [show (now : Int) + (mm : Int) = ((now + mm : Nat) : Int) by omega]; rfl
    unfold Tryz.a3x3 Tryz.a3x2 Tryz.a3x1 at tail
    have hD5 : (D ++ A).length ≤ 4000 := by rw [List.length_append]; exact r5
    refine wp_eql (fun hk0 => ?_) (fun hk0 => ?_)
    · refine wp_bind ?_
      try(refine zz ?_;(repeat constructor);intro _)
      refine wp_ret ?_
      show wp EM _ _ _
      refine wp_mono (tail 0 (by rw [if_pos (by omega)])) fun tg vs S' q => ?_
      obtain ⟨rfl, rfl, H⟩ := q
      show wp EM _ _ _
      refine wp_add64 (by omega) (by omega) ?_
      exact wp_ret (.inl ⟨rfl, _, _, now + mm, ⟨now + mm, M⟩, D ++ A, du', w', blk', rfl, r3, by omega, hD5, hW', H⟩)
    · refine wp_bind ?_
      try(refine zz ?_;(repeat constructor);intro _)
      refine wp_ret ?_
      show wp EM _ _ _
      refine wp_mono (tail ((now : Int) + 1) (by rw [if_neg (by omega)])) fun tg vs S' q => ?_
      obtain ⟨rfl, rfl, H⟩ := q
      show wp EM _ _ _
      refine wp_add64 (by omega) (by omega) ?_
      exact wp_ret (.inl ⟨rfl, _, _, now + mm, ⟨now + mm, M⟩, D ++ A, du', w', blk', rfl, r3, by omega, hD5, hW', H⟩)
  · clear H hW h0
    rintro vs S2 ⟨b, fr, now, x, D, du, w, blk, rfl, hT, hnow, hD4, hW, H⟩
    refine wp_len H mb ?_
    rw [ints_len]
    refine wp_lss_f (by omega) ?_
    try(refine zz ?_;(repeat constructor);intro _)
    refine wp_ret ⟨by simp, ?_⟩
    show wp EM _ _ _
    refine wp_call (wpC_mono (due_ok 6 rfl rfl rfl (H.ownSl (n := 0) rfl) (by omega) H) fun vd S3 H => ?_)
    have md : Fct.sl vd 2 (fis D) ∈ (.sl vd 2 (fis D) :: ro) := List.Mem.head _
    have mu : Fct.sl u 4 (tks (smL p e n)) ∈ (.sl vd 2 (fis D) :: ro) := List.mem_cons_of_mem _ mu
    have mb : Fct.sl vb 1 (ints by') ∈ (.sl vd 2 (fis D) :: ro) := List.mem_cons_of_mem _ mb
    generalize (.sl vd 2 (fis D) :: ro) = ro2 at H md mu mb
    refine wp_len H mb ?_
    rw [ints_len]
    have rest1 : ∀ {S3 : AH}, Cx S [] S3 (wE du D f fv C m bl y rest bx q (pwr E u m d f w mp du Ns 0 (notesF bx)) mp ++ (blk ++ [])) ro2 → wp EM (.bind (Tryz.a3x18 (.ptr q 0) [I ((by'.length : Nat) : Int), b, I (now : Int), fr] vd) (some 6) (fun v20 => Tryz.a3x26 (B true) (.ptr q 0) vd) (fun v20 => [nth v20 1])) S3 fun tg vs _ => tg = .ret ∧ oneOf vs = B true := by
      clear H
      intro S3 H
      unfold Tryz.a3x18 Tryz.a3x17 Tryz.a3x16 Tryz.a3x15 
      refine wp_bind (wp_loop (wpL_for D.length (fun i vs S' => ∃ b2, vs = [I (i : Int), b2] ∧ Cx S [] S' (wE du D f fv C m bl y rest bx q (pwr E u m d f w mp du Ns 0 (notesF bx)) mp ++ (blk ++ [])) ro2) ?_ ?_ ⟨_, rfl, H⟩))
      · clear H
        rintro i vs S4 hi ⟨b2, rfl, H⟩
        refine wp_len H md ?_
        rw [fis_len]
        refine wp_lss_t (by omega) ?_
        try(refine zz ?_;(repeat constructor);intro _)
        refine wp_bind ?_
        have hfg := fis_get hi
        have hin := hT.inn D[i] (List.getElem_mem hi)
        refine wp_saddr H md hfg fun id off H1 => ?_
        refine wp_loada H1 (List.Mem.head _) (by simp [Fi.cs]) ?_
        refine wp_tmpN H rfl rfl rfl fun z S5 H => ?_
        have H : Cx S [] S5 (wE du D f fv C m bl y rest bx q (pwr E u m d f w mp du Ns 0 (notesF bx)) mp ++ (blk ++ [])) (.pt z 0 D[i].cs :: ro2) := H
        try(refine zz ?_;(repeat constructor);intro _)
        refine wp_ld (o := 1) H (List.Mem.head _) rfl ?_
        try(refine zz ?_;(repeat constructor);intro _)
        refine wp_ld (o := 0) H (List.Mem.head _) rfl ?_
        refine wp_call (wpC_mono (exec_ok (l := smL p e n) 6 rfl (List.mem_cons_of_mem _ mu) (by omega) H) fun r S6 ⟨u2, hr, H⟩ => ?_)
        subst hr
        refine wp_ck (o := 1) H (List.Mem.tail _ (List.Mem.head _)) rfl beq_num ?_
        refine wp_ck (o := 0) H (List.Mem.tail _ (List.Mem.head _)) rfl beq_num ?_
        refine wp_op (v := u2) rfl ?_
        refine wp_call (wpC_mono (Tsk.due_ok (l := smL p e n) (now := (D[i].tm : Int)) (H.roSl (List.Mem.head _))) fun rd S7 K => ?_)
        have H := H.joinA K
        refine wp_ck (o := 0) H (List.Mem.tail _ (List.Mem.tail _ (List.Mem.head _))) rfl beq_num ?_
        obtain ⟨⟨t, ht, hiT⟩, htm⟩ := hin
        have hid : D[i].id < n := by have := (List.getElem?_eq_some_iff.1 ht).1; omega
        have hmem : ((D[i].id : Nat) : Int) ∈ Tsk.due (smL p e n) (D[i].tm : Int) := by
          unfold Tsk.due
          rw [if_pos hchk]
          exact mem_dueN (Nat.le_refl _) (by omega) ht (isNow_isT hiT)
        refine wp_call (wpC_mono (among_ok (List.Mem.head _) hmem (by have := Tsk.due_len (smL p e n) (D[i].tm : Int); omega) H) fun r S8 qq => ?_)
        obtain ⟨rfl, H⟩ := qq
        have H := H.tl.tl
        have H : Cx S [] S8 (wE du D f fv C m bl y rest bx q (pwr E u m d f w mp du Ns 0 (notesF bx)) mp ++ (blk ++ [])) (.pt z 0 D[i].cs :: ro2) := H
        have mz : Fct.pt z 0 D[i].cs ∈ (.pt z 0 D[i].cs :: ro2) := List.Mem.head _
        have md2 : Fct.sl vd 2 (fis D) ∈ (.pt z 0 D[i].cs :: ro2) := List.mem_cons_of_mem _ md
        unfold Tryz.a3x14 Tryz.a3x13 Tryz.a3x12 Tryz.a3x11 Tryz.a3x10 Tryz.a3x9 Tryz.a3x8 
        have done : ∀ {S9 : AH}, Cx S [] S9 (wE du D f fv C m bl y rest bx q (pwr E u m d f w mp du Ns 0 (notesF bx)) mp ++ (blk ++ [])) (.pt z 0 D[i].cs :: ro2) → wp EM (.ret .normal [b2]) S9 (boundTo EM (some 9) (fun v23 => .op (.bin .add (nth [I (i : Int), b2] 0) (I 1)) fun v24 => .ret .normal [v24, nth v23 0]) (fun v23 => [nth [I (i : Int), b2] 0, nth v23 0]) fun tg vs1 S1 => (tg = .normal ∧ ∃ b2, vs1 = [I ((i + 1 : Nat) : Int), b2] ∧ Cx S [] S1 (wE du D f fv C m bl y rest bx q (pwr E u m d f w mp du Ns 0 (notesF bx)) mp ++ (blk ++ [])) ro2) ∨ (tg ≠ .normal ∧ boundTo EM (some 6) (fun v20 => Tryz.a3x26 (B true) (.ptr q 0) vd) (fun v20 => [nth v20 1]) (fun tg vs _ => tg = .ret ∧ oneOf vs = B true) tg [nth vs1 0, nth vs1 1] S1)) := by
          intro S9 H
          refine wp_ret ?_
          show wp EM _ _ _
          refine wp_add64 (by omega) (by omega) ?_
          exact wp_ret (.inl ⟨rfl, b2, rfl, H.tl⟩)
        refine wp_notT ?_
        try(refine zz ?_;(repeat constructor);intro _)
        by_cases hpos : 0 < i
        · have hpm : i - 1 < D.length := by omega
          have hlt2 : (D[i - 1]).lt D[i] := ord_get hT.ord (by omega) hi
          have ep : ((i : Int) - 1) = ((i - 1 : Nat) : Int) := by omega
          unfold Fi.lt at hlt2
          refine wp_gtr_t (by omega) ?_
          try(refine zz ?_;(repeat constructor);intro _)
          refine wp_ld (o := 1) H mz rfl ?_
          try(refine zz ?_;(repeat constructor);intro _)
          refine wp_sub64 (by omega) (by omega) ?_
          rw [ep]
          refine wp_gop_t (wp_saddr H md2 (fis_get hpm) fun id2 off2 H2 => ?_)
          try(refine zz ?_;(repeat constructor);intro _)
          refine wp_load1 (j := 1) H2 (List.Mem.head _) rfl ?_
          refine wp_gop_t (wp_lss_f (by show (D[i - 1].tm : Int) ≤ (D[i].tm : Int); omega) ?_)
          try(refine zz ?_;(repeat constructor);intro _)
          refine wp_ld (o := 1) H mz rfl ?_
          try(refine zz ?_;(repeat constructor);intro _)
          refine wp_sub64 (by omega) (by omega) ?_
          rw [ep]
          refine wp_gop_t (wp_saddr H md2 (fis_get hpm) fun id2 off2 H2 => ?_)
          try(refine zz ?_;(repeat constructor);intro _)
          refine wp_load1 (j := 1) H2 (List.Mem.head _) rfl ?_
          by_cases heq : (D[i].tm : Int) = (D[i - 1].tm : Int)
          · refine wp_gop_t (wp_eql_t heq ?_)
            try(refine zz ?_;(repeat constructor);intro _)
            refine wp_ld (o := 0) H mz rfl ?_
            try(refine zz ?_;(repeat constructor);intro _)
            refine wp_sub64 (by omega) (by omega) ?_
            rw [ep]
            refine wp_gop_t (wp_saddr H md2 (fis_get hpm) fun id2 off2 H2 => ?_)
            try(refine zz ?_;(repeat constructor);intro _)
            refine wp_load1 (j := 0) H2 (List.Mem.head _) rfl ?_
            refine wp_gop_t (wp_leq_f (by show (D[i - 1].id : Int) < (D[i].id : Int); omega) ?_)
            try(refine zz ?_;(repeat constructor);intro _)
            exact done H
          · refine wp_gop_t (wp_eql_f heq ?_)
            try(refine zz ?_;(repeat constructor);intro _)
            exact done H
        · refine wp_gtr_f (by omega) ?_
          try(refine zz ?_;(repeat constructor);intro _)
          exact done H
      · clear H
        rintro vs S4 ⟨b2, rfl, H⟩
        refine wp_len H md ?_
        rw [fis_len]
        refine wp_lss_f (by omega) ?_
        try(refine zz ?_;(repeat constructor);intro _)
        refine wp_ret ⟨by simp, ?_⟩
        show wp EM _ _ _
        unfold Tryz.a3x26 Tryz.a3x25 Tryz.a3x24 Tryz.a3x23 Tryz.a3x22 Tryz.a3x21 Tryz.a3x20 Tryz.a3x19 
        refine wp_len H md ?_
        rw [fis_len]
        cases D with
        | nil =>
          refine wp_eql_t rfl ?_
          try(refine zz ?_;(repeat constructor);intro _)
          exact wp_ret ⟨rfl, rfl⟩
        | cons f0 D' =>
          refine wp_eql_f (by simp; omega) ?_
          try(refine zz ?_;(repeat constructor);intro _)
          refine wp_op (v := .agg [I 2, I 0, I 0]) rfl ?_
          refine wp_call (wpC_mono (doDue_ok (X := blk ++ []) hcores mu LC (by omega) H) fun r S5 qq => ?_)
          obtain ⟨rfl, hv2, du2, H⟩ := qq
          try(refine zz ?_;(repeat constructor);intro _)
          refine wp_tmpN H rfl rfl rfl fun z S6 H => ?_
          have m9 : Own.sl hv2 9 [evOf f0] = Own.sl hv2 9 [evOf f0] := rfl
          refine wp_call (wpC_mono (history_ok (a := evOf f0) rfl 1 rfl rfl rfl (H.ownSl (n := 0) rfl) H) fun vh S7 H => ?_)
          try(refine zz ?_;(repeat constructor);intro _)
          refine wp_eql_t rfl ?_
          try(refine zz ?_;(repeat constructor);intro _)
          refine wp_len H (List.Mem.head _) ?_
          refine wp_gop_t (wp_eql_t rfl ?_)
          try(refine zz ?_;(repeat constructor);intro _)
          refine wp_saddr H (List.Mem.head _) (i := 0) (x := evOf f0) rfl fun id3 off3 H3 => ?_
          try(refine zz ?_;(repeat constructor);intro _)
          refine wp_load1 (j := 3) H3 (List.Mem.head _) rfl ?_
          try(refine zz ?_;(repeat constructor);intro _)
          have md3 : Fct.sl vd 2 (fis (f0 :: D')) ∈ (.sl vh 9 [evOf f0] :: .pt z 0 zero5 :: .sl du2 2 (fis D') :: ro2) := List.Mem.tail _ (List.Mem.tail _ (List.Mem.tail _ md))
          refine wp_saddr H md3 (i := 0) (x := f0.cs) rfl fun id4 off4 H4 => ?_
          try(refine zz ?_;(repeat constructor);intro _)
          refine wp_load1 (j := 0) H4 (List.Mem.head _) rfl ?_
          refine wp_gop_t (wp_eql_t rfl ?_)
          try(refine zz ?_;(repeat constructor);intro _)
          refine wp_saddr H (List.Mem.head _) (i := 0) (x := evOf f0) rfl fun id5 off5 H5 => ?_
          try(refine zz ?_;(repeat constructor);intro _)
          refine wp_load1 (j := 4) H5 (List.Mem.head _) rfl ?_
          try(refine zz ?_;(repeat constructor);intro _)
          refine wp_saddr H md3 (i := 0) (x := f0.cs) rfl fun id6 off6 H6 => ?_
          try(refine zz ?_;(repeat constructor);intro _)
          refine wp_load1 (j := 1) H6 (List.Mem.head _) rfl ?_
          refine wp_gop_t (wp_eql_t rfl ?_)
          try(refine zz ?_;(repeat constructor);intro _)
          refine wp_suffix H md3 (i := 1) (by rw [fis_len]; simp) fun vs' H => ?_
          have H : Cx S [] S7 _ (.sl vs' 2 (fis D') :: .sl vh 9 [evOf f0] :: .pt z 0 zero5 :: .sl du2 2 (fis D') :: ro2) := H
          try(refine zz ?_;(repeat constructor);intro _)
          refine wp_call (wpC_mono (due_ok (D := D') 1 rfl rfl rfl (H.roSl (List.Mem.tail _ (List.Mem.tail _ (List.Mem.tail _ (List.Mem.head _))))) (by simp at hD4; omega) H) fun v62 S8 H => ?_)
          try(refine zz ?_;(repeat constructor);intro _)
          refine wp_callV H (sameF_ok (L := D') (H.roSl (List.Mem.head _)) (H.roSl (List.Mem.tail _ (List.Mem.head _))) (by simp at hD4; omega)) fun S9 H => ?_
          try(refine zz ?_;(repeat constructor);intro _)
          exact wp_ret ⟨rfl, rfl⟩
    by_cases hz : by'.length = 0
    · refine wp_gtr_f (by omega) ?_
      try(refine zz ?_;(repeat constructor);intro _)
      exact rest1 H
    · refine wp_gtr_t (by omega) ?_
      try(refine zz ?_;(repeat constructor);intro _)
      refine wp_len H md ?_
      rw [fis_len]
      try(refine zz ?_;(repeat constructor);intro _)
      refine wp_call (wpC_mono (exec_ok (l := smL p e n) 6 rfl mu (by omega) H) fun r S6 ⟨u2, hr, H⟩ => ?_)
      subst hr
      refine wp_gop_t (wp_op (v := u2) rfl ?_)
      try(refine zz ?_;(repeat constructor);intro _)
      refine wp_add64 (by omega) (by omega) ?_
      try(refine zz ?_;(repeat constructor);intro _)
      refine wp_callV H (Tsk.all_ok (l := smL p e n) (H.roSl (List.Mem.head _))) fun S8 H => ?_
      rw [hall]
      have hln := hT.len (by omega)
      rw [hlen] at hln
      refine wp_gop_t (wp_neq_f hln ?_)
      try(refine zz ?_;(repeat constructor);intro _)
      exact rest1 H.tl
end Go.Abs.X
