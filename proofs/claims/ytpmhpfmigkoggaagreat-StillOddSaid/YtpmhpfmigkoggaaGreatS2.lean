/- functions of this cut: what they compute, in the abstract machine. Conditions: stated in each theorem -/
import Derived.Test.YtpmhpfmigkoggaaGreatS1
set_option linter.unusedVariables false
set_option linter.unusedSimpArgs false
namespace Go.Abs
open Go.Proofs
set_option maxRecDepth 100000
set_option linter.unusedVariables false
/-! ### mailboxes: what waits -/
def rgOf (a r c : Int) : Rg := ⟨ringAt a r c, ringAt a r c + 1, ringAt a r c + 2, r.toNat⟩
theorem rgOf_cs {a r c : Int} (h : 0 ≤ r) : (rgOf a r c).cs = ringCs a r c := by
  have : ((r.toNat : Nat) : Int) = r := by omega
  show [_, _, _, I ((r.toNat : Nat) : Int)] = _
  rw [this]; rfl
theorem rgOf_ok {a n r c : Int} (h : mailQ a n r) (h0 : 0 ≤ c) (h1 : c < n) : (rgOf a r c).ok := by
  obtain ⟨m1, m2, m3, m4⟩ := ringAt_bd h h0 h1
  unfold mailQ mailP at h
  unfold Rg.ok rgOf
  refine ⟨?_, ?_, ?_, ?_⟩
  · show 1 ≤ r.toNat; omega
  · show r.toNat ≤ 4096; omega
  · show 0 ≤ ringAt a r c + 2; omega
  · show ringAt a r c + 2 ≤ 1000000; omega
def noMail (x : Me) (a n r : Int) : Prop := ∀ i : Nat, (i : Int) < n → ringVals x (rgOf a r i) = []
def noMailTo (x : Me) (a r : Int) (k : Nat) : Prop := ∀ i : Nat, i < k → ringVals x (rgOf a r i) = []
section
variable {B0 S : AH} {W : List Nat} {own R : List Own} {ro : List Fct} {Q : Post} {k : AV → AC} {m bl w : Nat} {x : Me} {rest : List AV} {v : AV} {a n r : Int}
theorem emptyM_ok (hx : x.good) (hrest : x.ws.length + rest.length = 4096) (hq : mailQ a n r) (H : Cx B0 W S (pMem m bl x rest ++ R) ro) : wpC EM (.fn (.func 37) [] []) [.agg [I a, I n, I r], .ptr m 0] S fun u S' => ∃ b : Bool, u = B b ∧ (b = true ↔ noMail x a n r) ∧ Cx B0 W S' (pMem m bl x rest ++ R) ro := by
  refine wpC_fn (b := Tryz.a37) rfl rfl ?_
  have h := hq
  unfold mailQ mailP at h
  obtain ⟨nn, hnn⟩ : ∃ k : Nat, n = (k : Int) := ⟨n.toNat, by omega⟩
  unfold Tryz.a37 Tryz.a37x4 Tryz.a37x3 Tryz.a37x2 Tryz.a37x1 Tryz.a37x0
  refine wp_fin ?_
  refine wp_box H rfl fun p S1 H => ?_
  refine wp_box H rfl fun pm S1 H => ?_
  refine wp_alloc H fun t S2 H => ?_
  have H : Cx B0 W S2 (.obj t (.row [B false]) :: (pMem m bl x rest ++ R)) (.pt pm 0 [.ptr m 0] :: .pt p 0 [I a, I n, I r] :: ro) := H
  refine wp_ldn (o := 0) (n := 3) (cs := [I a, I n, I r]) H (by repeat (first | exact List.Mem.head _ | apply List.Mem.tail)) rfl ?_
  refine wp_callV H (placedM_ok (a := a) (n := n) (r := r)) fun S3 H => ?_
  rw [decide_eq_true hq]
  refine wp_notT ?_
  repeat (first|refine zA ?_|refine zB rfl ?_|refine zC ?_|refine zD ?_|refine zE rfl ?_|refine zF ?_|refine zG ?_|refine zH ?_|refine zI ?_|refine zJ ?_|refine zK ?_|refine zL rfl ?_|refine zN rfl ?_)
  refine wp_ldn (o := 0) (n := 3) (cs := [I a, I n, I r]) H (by repeat (first | exact List.Mem.head _ | apply List.Mem.tail)) rfl ?_
  refine wp_call (wpC_fn (b := Tryz.a92) rfl rfl ?_)
  unfold Tryz.a92
  refine wp_box H rfl fun pb S4 H => ?_
  have H : Cx B0 W S4 (.obj t (.row [B false]) :: (pMem m bl x rest ++ R)) (.pt pb 0 [I a, I n, I r] :: .pt pm 0 [.ptr m 0] :: .pt p 0 [I a, I n, I r] :: ro) := H
  have back : ∀ {S own}, Cx B0 W S own (.pt pb 0 [I a, I n, I r] :: .pt pm 0 [.ptr m 0] :: .pt p 0 [I a, I n, I r] :: ro) → Cx B0 W S own ro := fun H => H.tl.tl.tl
  have mb : Fct.pt pb 0 [I a, I n, I r] ∈ (.pt pb 0 [I a, I n, I r] :: .pt pm 0 [.ptr m 0] :: .pt p 0 [I a, I n, I r] :: ro) := by repeat (first | exact List.Mem.head _ | apply List.Mem.tail)
  have mm : Fct.pt pm 0 [.ptr m 0] ∈ (.pt pb 0 [I a, I n, I r] :: .pt pm 0 [.ptr m 0] :: .pt p 0 [I a, I n, I r] :: ro) := by repeat (first | exact List.Mem.head _ | apply List.Mem.tail)
  generalize (Fct.pt pb 0 [I a, I n, I r] :: .pt pm 0 [.ptr m 0] :: .pt p 0 [I a, I n, I r] :: ro) = ro1 at H back mb mm
  refine wp_ret ⟨rfl, ?_⟩
  show wp EM _ _ _
  refine wp_bind (wp_rngX (Done := fun pd S' => (pd = none ∧ noMail x a n r ∧ Cx B0 W S' (.obj t (.row [B false]) :: (pMem m bl x rest ++ R)) ro1) ∨ (pd = some .ret ∧ ¬ noMail x a n r ∧ Cx B0 W S' (.obj t (.row [B false]) :: (pMem m bl x rest ++ R)) ro1)) H (by intro i e; cases e) ?_ ?_ ?_)
  · intro l S5 HL
    clear H
    have hyd : ∀ (i : Nat) S6, (i : Int) < n → Cx B0 W S6 (.obj l (.loop .ready none 2 fun v9 => Tryz.a37x2 (.ptr pm 0) (.ptr t 0) v9) :: .obj t (.row [B false]) :: (pMem m bl x rest ++ R)) ro1 →
        wpC EM (.yd l) [I (i : Int), .agg (ringCs a r i)] S6 fun v S' => (ringVals x (rgOf a r i) = [] ∧ v = B true ∧ Cx B0 W S' (.obj l (.loop .ready none 2 fun v9 => Tryz.a37x2 (.ptr pm 0) (.ptr t 0) v9) :: .obj t (.row [B false]) :: (pMem m bl x rest ++ R)) ro1) ∨ (ringVals x (rgOf a r i) ≠ [] ∧ v = B false ∧ Cx B0 W S' (.obj l (.loop .done (some .ret) 2 fun v9 => Tryz.a37x2 (.ptr pm 0) (.ptr t 0) v9) :: .obj t (.row [B false]) :: (pMem m bl x rest ++ R)) ro1) := by
      intro i S6 hi H
      refine wpC_ydX H 0 rfl rfl ?_
      unfold Tryz.a37x2 Tryz.a37x1 Tryz.a37x0
      refine wp_alloc H fun z S7 H => ?_
      refine wp_store (n := 4) H 0 (c := [I 0, I 0, I 0, I 0]) rfl rfl rfl (by simp) fun S8 H => ?_
      have H := H.freeze (i := 0) rfl
      have H : Cx B0 W S8 (.obj l (.loop .ready none 2 fun v9 => Tryz.a37x2 (.ptr pm 0) (.ptr t 0) v9) :: .obj t (.row [B false]) :: (pMem m bl x rest ++ R)) (.pt z 0 (ringCs a r i) :: ro1) := H
      refine wp_startO H 0 rfl fun S9 H => ?_
      refine wp_bind ?_
      refine wp_ldn (o := 0) (n := 4) (cs := ringCs a r i) H (List.Mem.head _) rfl ?_
      refine wp_ld H (List.mem_cons_of_mem _ mm) rfl ?_
      have K := H.permS (own' := pMem m bl x rest ++ (.obj l (.loop .busy none 2 fun v9 => Tryz.a37x2 (.ptr pm 0) (.ptr t 0) v9) :: .obj t (.row [B false]) :: R)) (by
        show List.Perm (_ :: _ :: (_ :: _ :: R)) (_ :: _ :: (_ :: _ :: R))
        exact (List.perm_append_comm (l₁ := [_, _]) (l₂ := [_, _])).append_right R)
      have hc := rgOf_cs (a := a) (r := r) (c := i) (by omega)
      have hall := rall_ok (r := rgOf a r i) hx hrest (rgOf_ok hq (by omega) hi) K
      rw [hc] at hall
      refine wp_call (wpC_mono hall fun u S10 K => ?_)
      refine wp_leno K 0 rfl ?_
      rw [ints_len]
      have K1 := (K.dropAt 0).permS (own' := .obj l (.loop .busy none 2 fun v9 => Tryz.a37x2 (.ptr pm 0) (.ptr t 0) v9) :: .obj t (.row [B false]) :: (pMem m bl x rest ++ R)) (by
        show List.Perm (_ :: _ :: (_ :: _ :: R)) (_ :: _ :: (_ :: _ :: R))
        exact (List.perm_append_comm (l₁ := [_, _]) (l₂ := [_, _])).append_right R)
      by_cases e : ringVals x (rgOf a r i) = []
      · refine wp_gtr_f (by rw [e]; simp) ?_
        repeat (first|refine zA ?_|refine zB rfl ?_|refine zC ?_|refine zD ?_|refine zE rfl ?_|refine zF ?_|refine zG ?_|refine zH ?_|refine zI ?_|refine zJ ?_|refine zK ?_|refine zL rfl ?_|refine zN rfl ?_)
        refine wp_ret ?_
        show wp EM _ _ _
        exact wp_ret ⟨_, _, K1, rfl, .inl ⟨rfl, fun S2 H => .inl ⟨e, rfl, H.tl⟩⟩⟩
      · have : 0 < (ringVals x (rgOf a r i)).length := List.length_pos_iff.2 e
        refine wp_gtr_t (by omega) ?_
        repeat (first|refine zA ?_|refine zB rfl ?_|refine zC ?_|refine zD ?_|refine zE rfl ?_|refine zF ?_|refine zG ?_|refine zH ?_|refine zI ?_|refine zJ ?_|refine zK ?_|refine zL rfl ?_|refine zN rfl ?_)
        refine wp_set1 (j := 0) K1 1 rfl (by simp) ⟨rfl, rfl⟩ fun S11 K1 => ?_
        exact wp_ret ⟨_, _, K1, rfl, .inr ⟨by simp, fun S2 H => .inr ⟨e, rfl, H.tl⟩⟩⟩
    refine wpC_fn (b := Tryz.a147) rfl rfl ?_
    unfold Tryz.a147 Tryz.a147x4 Tryz.a147x3 Tryz.a147x2 Tryz.a147x1 Tryz.a147x0
    repeat (first|refine zA ?_|refine zB rfl ?_|refine zC ?_|refine zD ?_|refine zE rfl ?_|refine zF ?_|refine zG ?_|refine zH ?_|refine zI ?_|refine zJ ?_|refine zK ?_|refine zL rfl ?_|refine zN rfl ?_)
    refine wp_ld HL mb rfl ?_
    refine wp_bind (wp_loop (wpL_for nn (fun i vs S' => vs = [I (i : Int)] ∧ noMailTo x a r i ∧ Cx B0 W S' (.obj l (.loop .ready none 2 fun v9 => Tryz.a37x2 (.ptr pm 0) (.ptr t 0) v9) :: .obj t (.row [B false]) :: (pMem m bl x rest ++ R)) ro1) ?_ ?_ ⟨rfl, fun i h => by omega, HL⟩))
    · rintro i vs S6 hi ⟨rfl, hno, H⟩
      obtain ⟨m1, m2, m3, m4⟩ := ringAt_bd (c := (i : Int)) hq (by omega) (by omega)
      refine wp_lss_t (by omega) ?_
      repeat (first|refine zA ?_|refine zB rfl ?_|refine zC ?_|refine zD ?_|refine zE rfl ?_|refine zF ?_|refine zG ?_|refine zH ?_|refine zI ?_|refine zJ ?_|refine zK ?_|refine zL rfl ?_|refine zN rfl ?_)
      refine wp_bind ?_
      repeat (first|refine zA ?_|refine zB rfl ?_|refine zC ?_|refine zD ?_|refine zE rfl ?_|refine zF ?_|refine zG ?_|refine zH ?_|refine zI ?_|refine zJ ?_|refine zK ?_|refine zL rfl ?_|refine zN rfl ?_)
      refine wp_ld H mb rfl ?_
      repeat (first|refine zA ?_|refine zB rfl ?_|refine zC ?_|refine zD ?_|refine zE rfl ?_|refine zF ?_|refine zG ?_|refine zH ?_|refine zI ?_|refine zJ ?_|refine zK ?_|refine zL rfl ?_|refine zN rfl ?_)
      refine wp_ld H mb rfl ?_
      refine wp_add64 (by omega) (by omega) ?_
      refine wp_mul64 (by omega) (by omega) ?_
      refine wp_add64 (by omega) (by omega) ?_
      have e : a + (i : Int) * (r + 2) = ringAt a r i := rfl
      rw [e]
      refine wp_add64 (by omega) (by omega) ?_
      refine wp_add64 (by omega) (by omega) ?_
      repeat (first|refine zA ?_|refine zB rfl ?_|refine zC ?_|refine zD ?_|refine zE rfl ?_|refine zF ?_|refine zG ?_|refine zH ?_|refine zI ?_|refine zJ ?_|refine zK ?_|refine zL rfl ?_|refine zN rfl ?_)
      refine wp_ld H mb rfl ?_
      refine wp_op (v := .agg (ringCs a r i)) rfl ?_
      refine wp_call (wpC_mono (hyd i S6 (by omega) H) fun v S7 q => ?_)
      rcases q with ⟨e, rfl, H⟩ | ⟨e, rfl, H⟩
      · refine wp_notT ?_
        repeat (first|refine zA ?_|refine zB rfl ?_|refine zC ?_|refine zD ?_|refine zE rfl ?_|refine zF ?_|refine zG ?_|refine zH ?_|refine zI ?_|refine zJ ?_|refine zK ?_|refine zL rfl ?_|refine zN rfl ?_)
        refine wp_ret ?_
        show wp EM _ _ _
        refine wp_add64 (by omega) (by omega) ?_
        refine wp_ret (.inl ⟨rfl, rfl, fun j hj => ?_, H⟩)
        by_cases hji : j = i
        · rw [hji]; exact e
        · exact hno j (by omega)
      · refine wp_notF ?_
        repeat (first|refine zA ?_|refine zB rfl ?_|refine zC ?_|refine zD ?_|refine zE rfl ?_|refine zF ?_|refine zG ?_|refine zH ?_|refine zI ?_|refine zJ ?_|refine zK ?_|refine zL rfl ?_|refine zN rfl ?_)
        refine wp_ret (.inr ⟨by simp, ?_⟩)
        exact ⟨rfl, .done, some .ret, 2, _, H.oh _ (List.Mem.head _), by simp, fun S2 g1 g2 => .inr ⟨rfl, fun hn => e (hn i (by omega)), H.other (n := 0) rfl g1 g2⟩⟩
    · rintro vs S6 ⟨rfl, hno, H⟩
      refine wp_lss_f (by omega) ?_
      repeat (first|refine zA ?_|refine zB rfl ?_|refine zC ?_|refine zD ?_|refine zE rfl ?_|refine zF ?_|refine zG ?_|refine zH ?_|refine zI ?_|refine zJ ?_|refine zK ?_|refine zL rfl ?_|refine zN rfl ?_)
      refine wp_ret ⟨by simp, ?_⟩
      show wp EM _ _ _
      exact wp_ret ⟨rfl, .ready, none, 2, _, H.oh _ (List.Mem.head _), by simp, fun S2 g1 g2 => .inl ⟨rfl, fun i hi => hno i (by omega), H.other (n := 0) rfl g1 g2⟩⟩
  · rintro S5 (⟨_, hno, H⟩ | ⟨e, _⟩)
    · refine wp_ret ?_
      show wp EM _ _ _
      refine wp_set1 (j := 0) H 0 rfl (by simp) ⟨rfl, rfl⟩ fun S6 H => ?_
      refine wp_ret ⟨.inr rfl, ?_⟩
      refine wp_row (j := 0) H 0 rfl rfl ?_
      exact wp_ret ⟨rfl, true, rfl, ⟨fun _ => hno, fun _ => rfl⟩, back (H.dropAt 0)⟩
    · cases e
  · rintro tg S5 (⟨e, _⟩ | ⟨e, hno, H⟩)
    · cases e
    · cases e
      refine ⟨.inr rfl, ?_⟩
      refine wp_row (j := 0) H 0 rfl rfl ?_
      exact wp_ret ⟨rfl, false, rfl, ⟨fun h => (by cases h), fun h => absurd h hno⟩, back (H.dropAt 0)⟩
/-- the document's -/
theorem emptyD_ok (hx : x.good) (hq : mailQ a n r) (H : Cx B0 W S (rMem w v x ++ R) ro) : wpC EM (.fn (.func 39) [] []) [.agg [I a, I n, I r], .ptr w 0] S fun u S' => ∃ b : Bool, u = B b ∧ (b = true ↔ noMail x a n r) ∧ Cx B0 W S' (rMem w v x ++ R) ro := by
  refine wpC_fn (b := Tryz.a39) rfl rfl ?_
  have h := hq
  unfold mailQ mailP at h
  obtain ⟨nn, hnn⟩ : ∃ k : Nat, n = (k : Int) := ⟨n.toNat, by omega⟩
  unfold Tryz.a39 Tryz.a39x2 Tryz.a39x1 Tryz.a39x0
  refine wp_box H rfl fun p S1 H => ?_
  have H : Cx B0 W S1 (rMem w v x ++ R) (.pt p 0 [I a, I n, I r] :: ro) := H
  have mp : Fct.pt p 0 [I a, I n, I r] ∈ (.pt p 0 [I a, I n, I r] :: ro) := List.Mem.head _
  refine wp_bind (wp_loop (wpL_for nn (fun i vs S' => (∃ u, vs = [I (i : Int), u]) ∧ noMailTo x a r i ∧ Cx B0 W S' (rMem w v x ++ R) (.pt p 0 [I a, I n, I r] :: ro)) ?_ ?_ ⟨⟨_, rfl⟩, fun i h => by omega, H⟩))
  · rintro i vs S2 hi ⟨⟨u0, rfl⟩, hno, H⟩
    repeat (first|refine zA ?_|refine zB rfl ?_|refine zC ?_|refine zD ?_|refine zE rfl ?_|refine zF ?_|refine zG ?_|refine zH ?_|refine zI ?_|refine zJ ?_|refine zK ?_|refine zL rfl ?_|refine zN rfl ?_)
    refine wp_ld H mp rfl ?_
    refine wp_lss_t (by omega) ?_
    repeat (first|refine zA ?_|refine zB rfl ?_|refine zC ?_|refine zD ?_|refine zE rfl ?_|refine zF ?_|refine zG ?_|refine zH ?_|refine zI ?_|refine zJ ?_|refine zK ?_|refine zL rfl ?_|refine zN rfl ?_)
    refine wp_ldn (o := 0) (n := 3) H mp rfl ?_
    repeat (first|refine zA ?_|refine zB rfl ?_|refine zC ?_|refine zD ?_|refine zE rfl ?_|refine zF ?_|refine zG ?_|refine zH ?_|refine zI ?_|refine zJ ?_|refine zK ?_|refine zL rfl ?_|refine zN rfl ?_)
    refine wp_callV H (rightM_ok (a := a) (n := n) (r := r)) fun S3 H => ?_
    rw [decide_eq_true hq.1]
    repeat (first|refine zA ?_|refine zB rfl ?_|refine zC ?_|refine zD ?_|refine zE rfl ?_|refine zF ?_|refine zG ?_|refine zH ?_|refine zI ?_|refine zJ ?_|refine zK ?_|refine zL rfl ?_|refine zN rfl ?_)
    refine wp_bind ?_
    refine wp_ldn (o := 0) (n := 3) H mp rfl ?_
    have hall : wpC EM (.fn (.func 95) [] []) [.agg [I a, I n, I r], I (i : Int), .ptr w 0] S3 fun u S' => Cx B0 W S' (.sl u 1 (ints (ringVals x (rgOf a r i))) :: (rMem w v x ++ R)) (.pt p 0 [I a, I n, I r] :: ro) := by
      refine wpC_fn (b := Tryz.a95) rfl rfl ?_
      unfold Tryz.a95 Tryz.a95x0
      refine wp_box H rfl fun p2 S4 H => ?_
      refine wp_ldn (o := 0) (n := 3) (cs := [I a, I n, I r]) H (List.Mem.head _) rfl ?_
      refine wp_callV H (rbox_ok (c := (i : Int)) hq (by omega) (by omega)) fun S5 H => ?_
      repeat (first|refine zA ?_|refine zB rfl ?_|refine zC ?_|refine zD ?_|refine zE rfl ?_|refine zF ?_|refine zG ?_|refine zH ?_|refine zI ?_|refine zJ ?_|refine zK ?_|refine zL rfl ?_|refine zN rfl ?_)
      refine wp_alloc H fun z S6 H => ?_
      refine wp_store (n := 4) H 0 (c := [I 0, I 0, I 0, I 0]) rfl rfl rfl (by simp) fun S7 H => ?_
      have H := H.freeze (i := 0) rfl
      refine wp_notT ?_
      repeat (first|refine zA ?_|refine zB rfl ?_|refine zC ?_|refine zD ?_|refine zE rfl ?_|refine zF ?_|refine zG ?_|refine zH ?_|refine zI ?_|refine zJ ?_|refine zK ?_|refine zL rfl ?_|refine zN rfl ?_)
      refine wp_ldn (o := 0) (n := 4) (cs := ringCs a r i) H (List.Mem.head _) rfl ?_
      have hd := dall_ok (r := rgOf a r i) hx (rgOf_ok hq (by omega) (by omega)) H
      rw [rgOf_cs (by omega)] at hd
      refine wp_call (wpC_mono hd fun u S8 H => ?_)
      exact wp_ret ⟨rfl, H.tl.tl⟩
    refine wp_call (wpC_mono hall fun u S4 H => ?_)
    refine wp_leno H 0 rfl ?_
    rw [ints_len]
    by_cases e : ringVals x (rgOf a r i) = []
    · rw [e]
      refine wp_gtr_f (by simp) ?_
      repeat (first|refine zA ?_|refine zB rfl ?_|refine zC ?_|refine zD ?_|refine zE rfl ?_|refine zF ?_|refine zG ?_|refine zH ?_|refine zI ?_|refine zJ ?_|refine zK ?_|refine zL rfl ?_|refine zN rfl ?_)
      refine wp_ret ?_
      show wp EM _ _ _
      refine wp_add64 (by omega) (by omega) ?_
      refine wp_ret (.inl ⟨rfl, ⟨_, rfl⟩, fun j hj => ?_, H.dropAt 0⟩)
      by_cases hji : j = i
      · rw [hji]; exact e
      · exact hno j (by omega)
    · have : 0 < (ringVals x (rgOf a r i)).length := List.length_pos_iff.2 e
      refine wp_gtr_t (by omega) ?_
      repeat (first|refine zA ?_|refine zB rfl ?_|refine zC ?_|refine zD ?_|refine zE rfl ?_|refine zF ?_|refine zG ?_|refine zH ?_|refine zI ?_|refine zJ ?_|refine zK ?_|refine zL rfl ?_|refine zN rfl ?_)
      refine wp_ret (.inr ⟨by simp, ?_⟩)
      exact ⟨rfl, false, rfl, ⟨fun h => (by cases h), fun h => absurd (h i (by omega)) e⟩, (H.dropAt 0).tl⟩
  · rintro vs S2 ⟨⟨u0, rfl⟩, hno, H⟩
    repeat (first|refine zA ?_|refine zB rfl ?_|refine zC ?_|refine zD ?_|refine zE rfl ?_|refine zF ?_|refine zG ?_|refine zH ?_|refine zI ?_|refine zJ ?_|refine zK ?_|refine zL rfl ?_|refine zN rfl ?_)
    refine wp_ld H mp rfl ?_
    refine wp_lss_f (by omega) ?_
    repeat (first|refine zA ?_|refine zB rfl ?_|refine zC ?_|refine zD ?_|refine zE rfl ?_|refine zF ?_|refine zG ?_|refine zH ?_|refine zI ?_|refine zJ ?_|refine zK ?_|refine zL rfl ?_|refine zN rfl ?_)
    refine wp_ret ⟨by simp, ?_⟩
    show wp EM _ _ _
    exact wp_ret ⟨rfl, true, rfl, ⟨fun _ i hi => hno i (by omega), fun _ => rfl⟩, H.tl⟩
end
end Go.Abs
namespace Go.Abs
open Go.Proofs
set_option maxRecDepth 100000
set_option linter.unusedVariables false
open Tsk (Tk tks tchk)
/-! ### flags -/
def rowW (x : Me) (f : Int) (k : Nat) : List Int := (List.range k).map fun i => x.word (f + (i : Nat))
theorem rowW_len (x : Me) (f : Int) (k : Nat) : (rowW x f k).length = k := by simp [rowW]
theorem rowW_succ (x : Me) (f : Int) (k : Nat) : rowW x f (k + 1) = rowW x f k ++ [x.word (f + (k : Nat))] := by simp [rowW, List.range_succ]
def bls (l : List Bool) : List (List AV) := l.map fun b => [B b]
def noFlag (x : Me) (f n : Int) : Prop := ∀ i : Nat, (i : Int) < n → x.word (f + i) = 0
section
variable {B0 S : AH} {W : List Nat} {own R : List Own} {ro : List Fct} {Q : Post} {k : AV → AC} {m bl w : Nat} {x : Me} {rest : List AV} {v : AV} {a f n : Int}
theorem sizedR_ok (h : 1 ≤ n ∧ n ≤ 64) : wpC EM (.fn (.func 128) [] []) [.agg [I a, I f, I n]] S fun u S' => u = B true ∧ Grows S S' := by
  refine wpC_fn (b := Tryz.a128) rfl rfl ?_
  have H : Cx S [] S [] [] := Cx.enter (by simp)
  unfold Tryz.a128 Tryz.a128x0
  refine wp_box H rfl fun p S1 H => ?_
  repeat (first|refine zA ?_|refine zB rfl ?_|refine zC ?_|refine zD ?_|refine zE rfl ?_|refine zF ?_|refine zG ?_|refine zH ?_|refine zI ?_|refine zJ ?_|refine zK ?_|refine zL rfl ?_|refine zN rfl ?_)
  refine wp_ld (o := 2) (cs := [I a, I f, I n]) H (by repeat (first | exact List.Mem.head _ | apply List.Mem.tail)) rfl ?_
  refine wp_geq_t h.1 ?_
  repeat (first|refine zA ?_|refine zB rfl ?_|refine zC ?_|refine zD ?_|refine zE rfl ?_|refine zF ?_|refine zG ?_|refine zH ?_|refine zI ?_|refine zJ ?_|refine zK ?_|refine zL rfl ?_|refine zN rfl ?_)
  refine wp_ld (o := 2) (cs := [I a, I f, I n]) H (by repeat (first | exact List.Mem.head _ | apply List.Mem.tail)) rfl ?_
  repeat (first|refine zA ?_|refine zB rfl ?_|refine zC ?_|refine zD ?_|refine zE rfl ?_|refine zF ?_|refine zG ?_|refine zH ?_|refine zI ?_|refine zJ ?_|refine zK ?_|refine zL rfl ?_|refine zN rfl ?_)
  refine wp_leq_t h.2 ?_
  repeat (first|refine zA ?_|refine zB rfl ?_|refine zC ?_|refine zD ?_|refine zE rfl ?_|refine zF ?_|refine zG ?_|refine zH ?_|refine zI ?_|refine zJ ?_|refine zK ?_|refine zL rfl ?_|refine zN rfl ?_)
  exact wp_ret ⟨rfl, rfl, H.grows⟩
theorem row_ok (hx : x.good) (hrest : x.ws.length + rest.length = 4096) (hn : 1 ≤ n ∧ n ≤ 64) (hf : 0 ≤ f ∧ f < 4096) (H : Cx B0 W S (pMem m bl x rest ++ R) ro) {g1 g2 : Int} : wpC EM (.fn (.func 90) [] []) [.agg [I g1, I g2, I n], I f, .ptr m 0] S fun u S' => Cx B0 W S' (.sl u 1 (uints (rowW x f n.toNat)) :: (pMem m bl x rest ++ R)) ro := by
  refine wpC_fn (b := Tryz.a90) rfl rfl ?_
  obtain ⟨nn, rfl⟩ : ∃ k : Nat, n = (k : Int) := ⟨n.toNat, by omega⟩
  rw [Int.toNat_natCast]
  unfold Tryz.a90 Tryz.a90x4 Tryz.a90x3 Tryz.a90x2 Tryz.a90x1 Tryz.a90x0
  refine wp_box H rfl fun p S1 H => ?_
  have H : Cx B0 W S1 (pMem m bl x rest ++ R) (.pt p 0 [I g1, I g2, I (nn : Int)] :: ro) := H
  refine wp_ldn (o := 0) (n := 3) H (List.Mem.head _) rfl ?_
  refine wp_callV H (sizedR_ok hn) fun S2 H => ?_
  refine wp_notT ?_
  repeat (first|refine zA ?_|refine zB rfl ?_|refine zC ?_|refine zD ?_|refine zE rfl ?_|refine zF ?_|refine zG ?_|refine zH ?_|refine zI ?_|refine zJ ?_|refine zK ?_|refine zL rfl ?_|refine zN rfl ?_)
  refine wp_call (wpC_mono (words_ok hx.1 hrest H) fun vw S3 H => ?_)
  have H := H.toRo (i := 0) rfl
  have H : Cx B0 W S3 (pMem m bl x rest ++ R) (.sl vw 1 (uints x.ws) :: .pt p 0 [I g1, I g2, I (nn : Int)] :: ro) := H
  have mw : Fct.sl vw 1 (uints x.ws) ∈ (.sl vw 1 (uints x.ws) :: .pt p 0 [I g1, I g2, I (nn : Int)] :: ro) := by repeat (first | exact List.Mem.head _ | apply List.Mem.tail)
  repeat (first|refine zA ?_|refine zB rfl ?_|refine zC ?_|refine zD ?_|refine zE rfl ?_|refine zF ?_|refine zG ?_|refine zH ?_|refine zI ?_|refine zJ ?_|refine zK ?_|refine zL rfl ?_|refine zN rfl ?_)
  refine wp_ld (o := 2) (cs := [I g1, I g2, I (nn : Int)]) H (by repeat (first | exact List.Mem.head _ | apply List.Mem.tail)) rfl ?_
  refine wp_mkslice1 H (by omega) (by omega) fun t S4 H => ?_
  refine wp_leno H 0 rfl ?_
  rw [List.length_replicate]
  refine wp_bind (wp_loop (wpL_for nn (fun i vs S' => vs = [I (i : Int)] ∧ Cx B0 W S' (.sl t 1 (uints (rowW x f i ++ List.replicate (nn - i) 0)) :: (pMem m bl x rest ++ R)) (.sl vw 1 (uints x.ws) :: .pt p 0 [I g1, I g2, I (nn : Int)] :: ro)) ?_ ?_ ⟨rfl, by
    have e : uints (rowW x f 0 ++ List.replicate (nn - 0) 0) = List.replicate nn [U 0] := by simp [rowW, uints]
    rw [e]; exact H⟩))
  · rintro i vs S5 hi ⟨rfl, H⟩
    have next : ∀ {S6}, Cx B0 W S6 (.sl t 1 (uints (rowW x f (i + 1) ++ List.replicate (nn - (i + 1)) 0)) :: (pMem m bl x rest ++ R)) (.sl vw 1 (uints x.ws) :: .pt p 0 [I g1, I g2, I (nn : Int)] :: ro) →
        wp EM (.op (.bin .add (I (i : Int)) (I 1)) fun v13 => .ret .normal [v13]) S6 fun tg vs1 S1 => (tg = .normal ∧ vs1 = [I ((i + 1 : Nat) : Int)] ∧ Cx B0 W S1 (.sl t 1 (uints (rowW x f (i + 1) ++ List.replicate (nn - (i + 1)) 0)) :: (pMem m bl x rest ++ R)) (.sl vw 1 (uints x.ws) :: .pt p 0 [I g1, I g2, I (nn : Int)] :: ro)) ∨ (tg ≠ .normal ∧ boundTo EM (some 0) (fun v10 => .ret .ret [t]) (fun v10 => [Ns]) (fun tg vs S' => tg = .ret ∧ Cx B0 W S' (.sl (oneOf vs) 1 (uints (rowW x f nn)) :: (pMem m bl x rest ++ R)) ro) tg [nth vs1 0] S1) := by
      intro S6 H
      refine wp_add64 (by omega) (by omega) ?_
      exact wp_ret (.inl ⟨rfl, rfl, H⟩)
    refine wp_lss_t (by omega) ?_
    repeat (first|refine zA ?_|refine zB rfl ?_|refine zC ?_|refine zD ?_|refine zE rfl ?_|refine zF ?_|refine zG ?_|refine zH ?_|refine zI ?_|refine zJ ?_|refine zK ?_|refine zL rfl ?_|refine zN rfl ?_)
    refine wp_bind ?_
    refine wp_add64 (by omega) (by omega) ?_
    refine wp_geq_t (by omega) ?_
    repeat (first|refine zA ?_|refine zB rfl ?_|refine zC ?_|refine zD ?_|refine zE rfl ?_|refine zF ?_|refine zG ?_|refine zH ?_|refine zI ?_|refine zJ ?_|refine zK ?_|refine zL rfl ?_|refine zN rfl ?_)
    refine wp_len H mw ?_
    rw [uints_len]
    repeat (first|refine zA ?_|refine zB rfl ?_|refine zC ?_|refine zD ?_|refine zE rfl ?_|refine zF ?_|refine zG ?_|refine zH ?_|refine zI ?_|refine zJ ?_|refine zK ?_|refine zL rfl ?_|refine zN rfl ?_)
    have hrl : (rowW x f i).length = i := rowW_len x f i
    by_cases hh : f + (i : Int) < x.ws.length
    · refine wp_lss_t hh ?_
      repeat (first|refine zA ?_|refine zB rfl ?_|refine zC ?_|refine zD ?_|refine zE rfl ?_|refine zF ?_|refine zG ?_|refine zH ?_|refine zI ?_|refine zJ ?_|refine zK ?_|refine zL rfl ?_|refine zN rfl ?_)
      refine wp_bind ?_
      repeat (first|refine zA ?_|refine zB rfl ?_|refine zC ?_|refine zD ?_|refine zE rfl ?_|refine zF ?_|refine zG ?_|refine zH ?_|refine zI ?_|refine zJ ?_|refine zK ?_|refine zL rfl ?_|refine zN rfl ?_)
      obtain ⟨q, hq⟩ : ∃ q : Nat, f + (i : Int) = (q : Int) := ⟨(f + i).toNat, by omega⟩
      rw [hq]
      have hw : x.ws[q]? = some x.ws[q] := List.getElem?_eq_getElem (by omega)
      have hwd : x.word (f + (i : Nat)) = x.ws[q] := by rw [hq]; exact Me.word_eq hw
      generalize x.ws[q] = z at hw hwd
      refine wp_saddr H mw (uints_get? hw) fun id off H1 => ?_
      refine wp_load0 H1 (List.Mem.head _) rfl ?_
      refine wp_storeE (y := U z) (i := i) H 0 rfl (by rw [uints_len]; simp [hrl]; omega) rfl rfl fun S6 H => ?_
      refine wp_ret ?_
      show wp EM _ _ _
      refine wp_ret ?_
      show wp EM _ _ _
      refine next ?_
      have e : (uints (rowW x f i ++ List.replicate (nn - i) 0)).set i [U z] = uints (rowW x f (i + 1) ++ List.replicate (nn - (i + 1)) 0) := by
        rw [uints_set, List.set_append_right _ _ (by omega), hrl, Nat.sub_self, show nn - i = (nn - (i + 1)) + 1 by omega, List.replicate_succ, List.set_cons_zero, rowW_succ, hwd]
        simp
      exact e ▸ H
    · refine wp_lss_f (by omega) ?_
      repeat (first|refine zA ?_|refine zB rfl ?_|refine zC ?_|refine zD ?_|refine zE rfl ?_|refine zF ?_|refine zG ?_|refine zH ?_|refine zI ?_|refine zJ ?_|refine zK ?_|refine zL rfl ?_|refine zN rfl ?_)
      refine wp_bind ?_
      repeat (first|refine zA ?_|refine zB rfl ?_|refine zC ?_|refine zD ?_|refine zE rfl ?_|refine zF ?_|refine zG ?_|refine zH ?_|refine zI ?_|refine zJ ?_|refine zK ?_|refine zL rfl ?_|refine zN rfl ?_)
      refine wp_ret ?_
      show wp EM _ _ _
      refine wp_ret ?_
      show wp EM _ _ _
      refine next ?_
      have hwd : x.word (f + (i : Nat)) = 0 := if_neg (fun h => by have := h.2; omega)
      have e : rowW x f i ++ List.replicate (nn - i) 0 = rowW x f (i + 1) ++ List.replicate (nn - (i + 1)) 0 := by
        rw [rowW_succ, hwd, show nn - i = (nn - (i + 1)) + 1 by omega, List.replicate_succ]; simp
      rw [← e]; exact H
  · rintro vs S5 ⟨rfl, H⟩
    refine wp_lss_f (by omega) ?_
    repeat (first|refine zA ?_|refine zB rfl ?_|refine zC ?_|refine zD ?_|refine zE rfl ?_|refine zF ?_|refine zG ?_|refine zH ?_|refine zI ?_|refine zJ ?_|refine zK ?_|refine zL rfl ?_|refine zN rfl ?_)
    refine wp_ret ⟨by simp, ?_⟩
    show wp EM _ _ _
    rw [Nat.sub_self, List.replicate_zero, List.append_nil] at H
    exact wp_ret ⟨rfl, H.tl.tl⟩
end
end Go.Abs
namespace Go.Abs
open Go.Proofs
set_option maxRecDepth 100000
set_option linter.unusedVariables false
open Tsk (Tk tks tchk)
theorem Ex.cs_beqS {S : AH} {e : Ex} {v : AV} {L : List (List AV)} (h : slOk S v 4 L) : ∀ y ∈ e.cs v, AV.beq y y = true := by
  have hv : AV.beq v v = true := beq_sl h
  intro y hy
  unfold Ex.cs at hy
  simp only [List.mem_cons, List.not_mem_nil, or_false] at hy
  repeat (rcases hy with rfl | hy; · first | exact beq_num | exact hv)
section
variable {B0 S : AH} {W : List Nat} {own R : List Own} {ro : List Fct} {Q : Post} {k : AV → AC} {m bl w : Nat} {x : Me} {rest : List AV} {v mv : AV} {e : Ex} {l : List Tk}
theorem flags_ok {g f n : Int} (hx : x.good) (hrest : x.ws.length + rest.length = 4096) (hn : 1 ≤ n ∧ n ≤ 64) (hf : 0 ≤ f ∧ f < 4096) (H : Cx B0 W S (pMem m bl x rest ++ R) ro) : wpC EM (.fn (.func 36) [] []) [.agg [I g, I f, I n], .ptr m 0] S fun u S' => Cx B0 W S' (.sl u 1 (bls ((rowW x f n.toNat).map fun z => decide (z ≠ 0))) :: (pMem m bl x rest ++ R)) ro := by
  refine wpC_fn (b := Tryz.a36) rfl rfl ?_
  unfold Tryz.a36 Tryz.a36x3 Tryz.a36x2 Tryz.a36x1 Tryz.a36x0
  refine wp_box H rfl fun p S1 H => ?_
  have H : Cx B0 W S1 (pMem m bl x rest ++ R) (.pt p 0 [I g, I f, I n] :: ro) := H
  refine wp_ldn (o := 0) (n := 3) H (List.Mem.head _) rfl ?_
  repeat (first|refine zA ?_|refine zB rfl ?_|refine zC ?_|refine zD ?_|refine zE rfl ?_|refine zF ?_|refine zG ?_|refine zH ?_|refine zI ?_|refine zJ ?_|refine zK ?_|refine zL rfl ?_|refine zN rfl ?_)
  refine wp_ld (o := 1) (cs := [I g, I f, I n]) H (List.Mem.head _) rfl ?_
  refine wp_call (wpC_mono (row_ok hx hrest hn hf H) fun u S2 H => ?_)
  have H := H.toRo (i := 0) rfl
  have H : Cx B0 W S2 (pMem m bl x rest ++ R) (.sl u 1 (uints (rowW x f n.toNat)) :: .pt p 0 [I g, I f, I n] :: ro) := H
  have mu : Fct.sl u 1 (uints (rowW x f n.toNat)) ∈ (.sl u 1 (uints (rowW x f n.toNat)) :: .pt p 0 [I g, I f, I n] :: ro) := List.Mem.head _
  refine wp_len H mu ?_
  rw [uints_len]
  have hL : (rowW x f n.toNat).length = n.toNat := rowW_len ..
  generalize rowW x f n.toNat = L at mu hL H
  have H := H.addNl 1
  refine wp_bind (wp_loop (wpL_for L.length (fun i vs S' => ∃ s, vs = [I (i : Int), s] ∧ Cx B0 W S' (.sl s 1 (bls ((L.take i).map fun z => decide (z ≠ 0))) :: (pMem m bl x rest ++ R)) (.sl u 1 (uints L) :: .pt p 0 [I g, I f, I n] :: ro)) ?_ ?_ ⟨Ns, rfl, H⟩))
  · rintro i vs S3 hi ⟨s, rfl, H⟩
    refine wp_lss_t (by omega) ?_
    repeat (first|refine zA ?_|refine zB rfl ?_|refine zC ?_|refine zD ?_|refine zE rfl ?_|refine zF ?_|refine zG ?_|refine zH ?_|refine zI ?_|refine zJ ?_|refine zK ?_|refine zL rfl ?_|refine zN rfl ?_)
    refine wp_bind ?_
    have hw : L[i]? = some L[i] := List.getElem?_eq_getElem hi
    generalize L[i] = z at hw
    refine wp_saddr H mu (uints_get? hw) fun id off H1 => ?_
    refine wp_load0 H1 (List.Mem.head _) rfl ?_
    refine wp_op (S1 := S3) (v := B (decide (z ≠ 0))) e_neq ?_
    have hlen : (bls ((L.take i).map fun z => decide (z ≠ 0))).length = i := by simp [bls]; omega
    refine wp_push (L := bls ((L.take i).map fun z => decide (z ≠ 0))) H 0 rfl rfl rfl rfl (by rw [hlen]; unfold maxBytes; omega) (by rw [hlen]; unfold maxLenN; omega) fun s2 S4 H => ?_
    refine wp_ret ?_
    show wp EM _ _ _
    refine wp_add64 (by omega) (by omega) ?_
    refine wp_ret (.inl ⟨rfl, s2, rfl, ?_⟩)
    have e : bls ((L.take (i + 1)).map fun z => decide (z ≠ 0)) = bls ((L.take i).map fun z => decide (z ≠ 0)) ++ [[B (decide (z ≠ 0))]] := by
      rw [List.take_add_one, hw]; simp [bls]
    rw [e]; exact H
  · rintro vs S3 ⟨s, rfl, H⟩
    refine wp_lss_f (by omega) ?_
    repeat (first|refine zA ?_|refine zB rfl ?_|refine zC ?_|refine zD ?_|refine zE rfl ?_|refine zF ?_|refine zG ?_|refine zH ?_|refine zI ?_|refine zJ ?_|refine zK ?_|refine zL rfl ?_|refine zN rfl ?_)
    refine wp_ret ⟨by simp, ?_⟩
    show wp EM _ _ _
    rw [List.take_length] at H
    exact wp_ret ⟨rfl, H.tl.tl⟩
theorem ok_bd (h : e.ok l) : mailQ e.mfirst e.mcores e.mroom ∧ (1 ≤ e.rcores ∧ e.rcores ≤ 64) ∧ (0 ≤ e.rflags ∧ e.rflags < 4096) ∧ e.mcores = e.rcores ∧ 1 ≤ e.jsize ∧ e.jsize ≤ 64 ∧ 1 ≤ e.mroom ∧ e.mroom ≤ 16 := by
  unfold Ex.ok cellP at h
  unfold mailQ mailP
  omega
/-- is it quiet? -/
def quiet (e : Ex) (l : List Tk) (x : Me) : Prop := e.ok l ∧ noFlag x e.rflags e.rcores ∧ noMail x e.mfirst e.mcores e.mroom
theorem quietP_ok (hv : Fct.sl v 4 (tks l) ∈ ro) (hx : x.good) (hrest : x.ws.length + rest.length = 4096) (H : Cx B0 W S (pMem m bl x rest ++ R) ro) : wpC EM (.fn (.func 11) [] []) [.agg (e.cs v), .ptr m 0] S fun u S' => ∃ b : Bool, u = B b ∧ (b = true ↔ quiet e l x) ∧ Cx B0 W S' (pMem m bl x rest ++ R) ro := by
  refine wpC_fn (b := Tryz.a11) rfl rfl ?_
  unfold Tryz.a11 Tryz.a11x3 Tryz.a11x2 Tryz.a11x1 Tryz.a11x0
  refine wp_box H rfl fun p S1 H => ?_
  have H : Cx B0 W S1 (pMem m bl x rest ++ R) (.pt p 0 (e.cs v) :: ro) := H
  have mp : Fct.pt p 0 (e.cs v) ∈ (.pt p 0 (e.cs v) :: ro) := List.Mem.head _
  refine wp_ldn H mp rfl ?_
  refine wp_callV H (soundE_ok (e := e) (l := l) (v := v) (List.mem_cons_of_mem _ hv) H) fun S2 H => ?_
  refine wp_not ?_
  by_cases he : e.ok l
  rotate_left
  · rw [decide_eq_false he]
    repeat (first|refine zA ?_|refine zB rfl ?_|refine zC ?_|refine zD ?_|refine zE rfl ?_|refine zF ?_|refine zG ?_|refine zH ?_|refine zI ?_|refine zJ ?_|refine zK ?_|refine zL rfl ?_|refine zN rfl ?_)
    exact wp_ret ⟨rfl, false, rfl, ⟨fun h => (by cases h), fun h => absurd h.1 he⟩, H.tl⟩
  rw [decide_eq_true he]
  obtain ⟨q1, q2, q3, q4, _⟩ := ok_bd he
  obtain ⟨nn, hnn⟩ : ∃ k : Nat, e.rcores = (k : Int) := ⟨e.rcores.toNat, by omega⟩
  repeat (first|refine zA ?_|refine zB rfl ?_|refine zC ?_|refine zD ?_|refine zE rfl ?_|refine zF ?_|refine zG ?_|refine zH ?_|refine zI ?_|refine zJ ?_|refine zK ?_|refine zL rfl ?_|refine zN rfl ?_)
  refine wp_ldn (o := 23) (n := 3) H mp rfl ?_
  refine wp_call (wpC_mono (flags_ok (g := e.rruns) (f := e.rflags) (n := e.rcores) hx hrest q2 q3 H) fun u S3 H => ?_)
  refine wp_leno H 0 rfl ?_
  have hlen : (bls ((rowW x e.rflags e.rcores.toNat).map fun z => decide (z ≠ 0))).length = nn := by simp [bls, rowW_len, hnn]
  rw [hlen]
  have at' : ∀ i : Nat, i < nn → (bls ((rowW x e.rflags e.rcores.toNat).map fun z => decide (z ≠ 0)))[i]? = some [B (decide (x.word (e.rflags + (i : Nat)) ≠ 0))] := by
    intro i hi
    have h3 : (List.range e.rcores.toNat)[i]? = some i := by rw [List.getElem?_range (by omega)]
    simp [bls, rowW, h3]
  refine wp_bind (wp_loop (wpL_for nn (fun i vs S' => (∃ u0, vs = [I (i : Int), u0]) ∧ (∀ j : Nat, j < i → x.word (e.rflags + (j : Nat)) = 0) ∧ Cx B0 W S' (.sl u 1 (bls ((rowW x e.rflags e.rcores.toNat).map fun z => decide (z ≠ 0))) :: (pMem m bl x rest ++ R)) (.pt p 0 (e.cs v) :: ro)) ?_ ?_ ⟨⟨_, rfl⟩, fun j h => by omega, H⟩))
  · rintro i vs S4 hi ⟨⟨u0, rfl⟩, hz, H⟩
    refine wp_lss_t (by omega) ?_
    repeat (first|refine zA ?_|refine zB rfl ?_|refine zC ?_|refine zD ?_|refine zE rfl ?_|refine zF ?_|refine zG ?_|refine zH ?_|refine zI ?_|refine zJ ?_|refine zK ?_|refine zL rfl ?_|refine zN rfl ?_)
    refine wp_bind ?_
    refine wp_saddro H 0 rfl (at' i hi) fun id off hp => ?_
    refine wp_loadF0 hp ?_
    by_cases h0 : x.word (e.rflags + (i : Nat)) = 0
    · rw [decide_eq_false (fun h => h h0)]
      repeat (first|refine zA ?_|refine zB rfl ?_|refine zC ?_|refine zD ?_|refine zE rfl ?_|refine zF ?_|refine zG ?_|refine zH ?_|refine zI ?_|refine zJ ?_|refine zK ?_|refine zL rfl ?_|refine zN rfl ?_)
      refine wp_ret ?_
      show wp EM _ _ _
      refine wp_add64 (by omega) (by omega) ?_
      refine wp_ret (.inl ⟨rfl, ⟨_, rfl⟩, fun j hj => ?_, H⟩)
      by_cases hji : j = i
      · rw [hji]; exact h0
      · exact hz j (by omega)
    · rw [decide_eq_true h0]
      repeat (first|refine zA ?_|refine zB rfl ?_|refine zC ?_|refine zD ?_|refine zE rfl ?_|refine zF ?_|refine zG ?_|refine zH ?_|refine zI ?_|refine zJ ?_|refine zK ?_|refine zL rfl ?_|refine zN rfl ?_)
      refine wp_ret (.inr ⟨by simp, ?_⟩)
      exact ⟨rfl, false, rfl, ⟨fun h => (by cases h), fun h => absurd (h.2.1 i (by omega)) h0⟩, (H.dropAt 0).tl⟩
  · rintro vs S4 ⟨⟨u0, rfl⟩, hz, H⟩
    refine wp_lss_f (by omega) ?_
    repeat (first|refine zA ?_|refine zB rfl ?_|refine zC ?_|refine zD ?_|refine zE rfl ?_|refine zF ?_|refine zG ?_|refine zH ?_|refine zI ?_|refine zJ ?_|refine zK ?_|refine zL rfl ?_|refine zN rfl ?_)
    refine wp_ret ⟨by simp, ?_⟩
    show wp EM _ _ _
    repeat (first|refine zA ?_|refine zB rfl ?_|refine zC ?_|refine zD ?_|refine zE rfl ?_|refine zF ?_|refine zG ?_|refine zH ?_|refine zI ?_|refine zJ ?_|refine zK ?_|refine zL rfl ?_|refine zN rfl ?_)
    refine wp_ldn (o := 20) (n := 3) H mp rfl ?_
    have H := H.dropAt 0
    refine wp_call (wpC_mono (emptyM_ok (a := e.mfirst) (n := e.mcores) (r := e.mroom) hx hrest q1 H) fun u2 S5 q => ?_)
    obtain ⟨b, rfl, hb, H⟩ := q
    exact wp_ret ⟨rfl, b, rfl, hb.trans ⟨fun h => ⟨he, fun i hi => hz i (by omega), h⟩, fun h => h.2.2⟩, H.tl⟩
theorem quietD_ok (hv : Fct.sl v 4 (tks l) ∈ ro) (hx : x.good) (H : Cx B0 W S (rMem w mv x ++ R) ro) : wpC EM (.fn (.func 12) [] []) [.agg (e.cs v), .ptr w 0] S fun u S' => ∃ b : Bool, u = B b ∧ (b = true ↔ quiet e l x) ∧ Cx B0 W S' (rMem w mv x ++ R) ro := by
  refine wpC_fn (b := Tryz.a12) rfl rfl ?_
  unfold Tryz.a12 Tryz.a12x3 Tryz.a12x2 Tryz.a12x1 Tryz.a12x0
  refine wp_box H rfl fun p S1 H => ?_
  have H : Cx B0 W S1 (rMem w mv x ++ R) (.pt p 0 (e.cs v) :: ro) := H
  have mp : Fct.pt p 0 (e.cs v) ∈ (.pt p 0 (e.cs v) :: ro) := List.Mem.head _
  refine wp_ldn H mp rfl ?_
  refine wp_callV H (rsoundE_ok (e := e) (l := l) (v := v) (List.mem_cons_of_mem _ hv) H) fun S2 H => ?_
  refine wp_not ?_
  by_cases he : e.ok l
  rotate_left
  · rw [decide_eq_false he]
    repeat (first|refine zA ?_|refine zB rfl ?_|refine zC ?_|refine zD ?_|refine zE rfl ?_|refine zF ?_|refine zG ?_|refine zH ?_|refine zI ?_|refine zJ ?_|refine zK ?_|refine zL rfl ?_|refine zN rfl ?_)
    exact wp_ret ⟨rfl, false, rfl, ⟨fun h => (by cases h), fun h => absurd h.1 he⟩, H.tl⟩
  rw [decide_eq_true he]
  obtain ⟨q1, q2, q3, q4, _⟩ := ok_bd he
  obtain ⟨nn, hnn⟩ : ∃ k : Nat, e.rcores = (k : Int) := ⟨e.rcores.toNat, by omega⟩
  repeat (first|refine zA ?_|refine zB rfl ?_|refine zC ?_|refine zD ?_|refine zE rfl ?_|refine zF ?_|refine zG ?_|refine zH ?_|refine zI ?_|refine zJ ?_|refine zK ?_|refine zL rfl ?_|refine zN rfl ?_)
  refine wp_bind (wp_loop (wpL_for nn (fun i vs S' => (∃ u0, vs = [I (i : Int), u0]) ∧ (∀ j : Nat, j < i → x.word (e.rflags + (j : Nat)) = 0) ∧ Cx B0 W S' (rMem w mv x ++ R) (.pt p 0 (e.cs v) :: ro)) ?_ ?_ ⟨⟨_, rfl⟩, fun j h => by omega, H⟩))
  · rintro i vs S4 hi ⟨⟨u0, rfl⟩, hz, H⟩
    repeat (first|refine zA ?_|refine zB rfl ?_|refine zC ?_|refine zD ?_|refine zE rfl ?_|refine zF ?_|refine zG ?_|refine zH ?_|refine zI ?_|refine zJ ?_|refine zK ?_|refine zL rfl ?_|refine zN rfl ?_)
    refine wp_ld (o := 25) H mp rfl ?_
    refine wp_lss_t (by omega) ?_
    repeat (first|refine zA ?_|refine zB rfl ?_|refine zC ?_|refine zD ?_|refine zE rfl ?_|refine zF ?_|refine zG ?_|refine zH ?_|refine zI ?_|refine zJ ?_|refine zK ?_|refine zL rfl ?_|refine zN rfl ?_)
    refine wp_bind ?_
    repeat (first|refine zA ?_|refine zB rfl ?_|refine zC ?_|refine zD ?_|refine zE rfl ?_|refine zF ?_|refine zG ?_|refine zH ?_|refine zI ?_|refine zJ ?_|refine zK ?_|refine zL rfl ?_|refine zN rfl ?_)
    refine wp_ld (o := 24) H mp rfl ?_
    refine wp_add64 (by omega) (by omega) ?_
    refine wp_call (wpC_mono (at_ok H) fun u1 S5 q => ?_)
    obtain ⟨rfl, rfl⟩ := q
    by_cases h0 : x.word (e.rflags + (i : Nat)) = 0
    · refine wp_neq_f h0 ?_
      repeat (first|refine zA ?_|refine zB rfl ?_|refine zC ?_|refine zD ?_|refine zE rfl ?_|refine zF ?_|refine zG ?_|refine zH ?_|refine zI ?_|refine zJ ?_|refine zK ?_|refine zL rfl ?_|refine zN rfl ?_)
      refine wp_ret ?_
      show wp EM _ _ _
      refine wp_add64 (by omega) (by omega) ?_
      refine wp_ret (.inl ⟨rfl, ⟨_, rfl⟩, fun j hj => ?_, H⟩)
      by_cases hji : j = i
      · rw [hji]; exact h0
      · exact hz j (by omega)
    · refine wp_neq_t h0 ?_
      repeat (first|refine zA ?_|refine zB rfl ?_|refine zC ?_|refine zD ?_|refine zE rfl ?_|refine zF ?_|refine zG ?_|refine zH ?_|refine zI ?_|refine zJ ?_|refine zK ?_|refine zL rfl ?_|refine zN rfl ?_)
      refine wp_ret (.inr ⟨by simp, ?_⟩)
      exact ⟨rfl, false, rfl, ⟨fun h => (by cases h), fun h => absurd (h.2.1 i (by omega)) h0⟩, H.tl⟩
  · rintro vs S4 ⟨⟨u0, rfl⟩, hz, H⟩
    repeat (first|refine zA ?_|refine zB rfl ?_|refine zC ?_|refine zD ?_|refine zE rfl ?_|refine zF ?_|refine zG ?_|refine zH ?_|refine zI ?_|refine zJ ?_|refine zK ?_|refine zL rfl ?_|refine zN rfl ?_)
    refine wp_ld (o := 25) H mp rfl ?_
    refine wp_lss_f (by omega) ?_
    repeat (first|refine zA ?_|refine zB rfl ?_|refine zC ?_|refine zD ?_|refine zE rfl ?_|refine zF ?_|refine zG ?_|refine zH ?_|refine zI ?_|refine zJ ?_|refine zK ?_|refine zL rfl ?_|refine zN rfl ?_)
    refine wp_ret ⟨by simp, ?_⟩
    show wp EM _ _ _
    repeat (first|refine zA ?_|refine zB rfl ?_|refine zC ?_|refine zD ?_|refine zE rfl ?_|refine zF ?_|refine zG ?_|refine zH ?_|refine zI ?_|refine zJ ?_|refine zK ?_|refine zL rfl ?_|refine zN rfl ?_)
    refine wp_ldn (o := 20) (n := 3) H mp rfl ?_
    refine wp_call (wpC_mono (emptyD_ok (a := e.mfirst) (n := e.mcores) (r := e.mroom) hx q1 H) fun u2 S5 q => ?_)
    obtain ⟨b, rfl, hb, H⟩ := q
    exact wp_ret ⟨rfl, b, rfl, hb.trans ⟨fun h => ⟨he, fun i hi => hz i (by omega), h⟩, fun h => h.2.2⟩, H.tl⟩
end
end Go.Abs
namespace Go.Abs
open Go.Proofs
set_option maxRecDepth 100000
set_option linter.unusedVariables false
open Tsk (Tk tks tchk)
def Ex.rounds (e : Ex) (l : List Tk) : Int := if e.ok l then 2 * e.rcores * e.jsize + e.mroom + 4 else 0
section
variable {B0 S : AH} {W : List Nat} {own R : List Own} {ro : List Fct} {Q : Post} {k : AV → AC} {m bl w : Nat} {x : Me} {rest : List AV} {v mv : AV} {e : Ex} {l : List Tk}
theorem rounds_bd (h : e.ok l) : 0 ≤ 2 * e.rcores * e.jsize ∧ 2 * e.rcores * e.jsize ≤ 8192 := by
  obtain ⟨q1, q2, q3, q4, q5, q6, q7, q8⟩ := ok_bd h
  have := mul_bd (a := 2 * e.rcores) (b := e.jsize) (A := 128) (C := 64) (by omega) (by omega) (by omega) (by omega)
  omega
theorem roundsP_ok (hv : Fct.sl v 4 (tks l) ∈ ro) (H : Cx B0 W S own ro) : wpC EM (.fn (.func 13) [] []) [.agg (e.cs v)] S fun u S' => u = I (e.rounds l) ∧ Cx B0 W S' own ro := by
  refine wpC_fn (b := Tryz.a13) rfl rfl ?_
  unfold Tryz.a13 Tryz.a13x2 Tryz.a13x1 Tryz.a13x0
  refine wp_box H rfl fun p S1 H => ?_
  have H : Cx B0 W S1 own (.pt p 0 (e.cs v) :: ro) := H
  have mp : Fct.pt p 0 (e.cs v) ∈ (.pt p 0 (e.cs v) :: ro) := List.Mem.head _
  refine wp_ldn H mp rfl ?_
  refine wp_callV H (soundE_ok (e := e) (l := l) (v := v) (List.mem_cons_of_mem _ hv) H) fun S2 H => ?_
  refine wp_not ?_
  unfold Ex.rounds
  by_cases he : e.ok l
  · rw [decide_eq_true he, if_pos he]
    obtain ⟨q1, q2, q3, q4, q5, q6, q7, q8⟩ := ok_bd he
    obtain ⟨b1, b2⟩ := rounds_bd he
    repeat (first|refine zA ?_|refine zB rfl ?_|refine zC ?_|refine zD ?_|refine zE rfl ?_|refine zF ?_|refine zG ?_|refine zH ?_|refine zI ?_|refine zJ ?_|refine zK ?_|refine zL rfl ?_|refine zN rfl ?_)
    refine wp_ld (o := 25) H mp rfl ?_
    refine wp_mul64 (by omega) (by omega) ?_
    repeat (first|refine zA ?_|refine zB rfl ?_|refine zC ?_|refine zD ?_|refine zE rfl ?_|refine zF ?_|refine zG ?_|refine zH ?_|refine zI ?_|refine zJ ?_|refine zK ?_|refine zL rfl ?_|refine zN rfl ?_)
    refine wp_ld (o := 19) H mp rfl ?_
    refine wp_mul64 (by omega) (by omega) ?_
    repeat (first|refine zA ?_|refine zB rfl ?_|refine zC ?_|refine zD ?_|refine zE rfl ?_|refine zF ?_|refine zG ?_|refine zH ?_|refine zI ?_|refine zJ ?_|refine zK ?_|refine zL rfl ?_|refine zN rfl ?_)
    refine wp_ld (o := 22) H mp rfl ?_
    refine wp_add64 (by omega) (by omega) ?_
    refine wp_add64 (by omega) (by omega) ?_
    exact wp_ret ⟨rfl, rfl, H.tl⟩
  · rw [decide_eq_false he, if_neg he]
    repeat (first|refine zA ?_|refine zB rfl ?_|refine zC ?_|refine zD ?_|refine zE rfl ?_|refine zF ?_|refine zG ?_|refine zH ?_|refine zI ?_|refine zJ ?_|refine zK ?_|refine zL rfl ?_|refine zN rfl ?_)
    exact wp_ret ⟨rfl, rfl, H.tl⟩
theorem roundsD_ok (hv : Fct.sl v 4 (tks l) ∈ ro) (H : Cx B0 W S own ro) : wpC EM (.fn (.func 14) [] []) [.agg (e.cs v)] S fun u S' => u = I (e.rounds l) ∧ Cx B0 W S' own ro := by
  refine wpC_fn (b := Tryz.a14) rfl rfl ?_
  unfold Tryz.a14 Tryz.a14x2 Tryz.a14x1 Tryz.a14x0
  refine wp_box H rfl fun p S1 H => ?_
  have H : Cx B0 W S1 own (.pt p 0 (e.cs v) :: ro) := H
  have mp : Fct.pt p 0 (e.cs v) ∈ (.pt p 0 (e.cs v) :: ro) := List.Mem.head _
  refine wp_ldn H mp rfl ?_
  refine wp_callV H (rsoundE_ok (e := e) (l := l) (v := v) (List.mem_cons_of_mem _ hv) H) fun S2 H => ?_
  refine wp_not ?_
  unfold Ex.rounds
  by_cases he : e.ok l
  · rw [decide_eq_true he, if_pos he]
    obtain ⟨q1, q2, q3, q4, q5, q6, q7, q8⟩ := ok_bd he
    obtain ⟨b1, b2⟩ := rounds_bd he
    repeat (first|refine zA ?_|refine zB rfl ?_|refine zC ?_|refine zD ?_|refine zE rfl ?_|refine zF ?_|refine zG ?_|refine zH ?_|refine zI ?_|refine zJ ?_|refine zK ?_|refine zL rfl ?_|refine zN rfl ?_)
    refine wp_ld (o := 21) H mp rfl ?_
    rw [q4]
    refine wp_mul64 (by omega) (by omega) ?_
    repeat (first|refine zA ?_|refine zB rfl ?_|refine zC ?_|refine zD ?_|refine zE rfl ?_|refine zF ?_|refine zG ?_|refine zH ?_|refine zI ?_|refine zJ ?_|refine zK ?_|refine zL rfl ?_|refine zN rfl ?_)
    refine wp_ld (o := 19) H mp rfl ?_
    refine wp_mul64 (by omega) (by omega) ?_
    repeat (first|refine zA ?_|refine zB rfl ?_|refine zC ?_|refine zD ?_|refine zE rfl ?_|refine zF ?_|refine zG ?_|refine zH ?_|refine zI ?_|refine zJ ?_|refine zK ?_|refine zL rfl ?_|refine zN rfl ?_)
    refine wp_ld (o := 22) H mp rfl ?_
    refine wp_add64 (by omega) (by omega) ?_
    refine wp_add64 (by omega) (by omega) ?_
    exact wp_ret ⟨rfl, rfl, H.tl⟩
  · rw [decide_eq_false he, if_neg he]
    repeat (first|refine zA ?_|refine zB rfl ?_|refine zC ?_|refine zD ?_|refine zE rfl ?_|refine zF ?_|refine zG ?_|refine zH ?_|refine zI ?_|refine zJ ?_|refine zK ?_|refine zL rfl ?_|refine zN rfl ?_)
    exact wp_ret ⟨rfl, rfl, H.tl⟩
theorem settleBad_ok (he : ¬ e.ok l) (hv : Fct.sl v 4 (tks l) ∈ ro) (H : Cx B0 W S own ro) : wpC EM (.fn (.func 17) [] []) [.agg (e.cs v), .ptr m 0, Ns, Np] S fun u S' => u = .tup [.agg [I 0, I 0, I 0, I 0, B false], I 2] ∧ Cx B0 W S' own ro := by
  refine wpC_fn (b := Tryz.a17) rfl rfl ?_
  unfold Tryz.a17 Tryz.a17x19 Tryz.a17x18 Tryz.a17x17 Tryz.a17x16 Tryz.a17x15 Tryz.a17x14 Tryz.a17x13 Tryz.a17x12 Tryz.a17x11 Tryz.a17x10 Tryz.a17x9 Tryz.a17x8 Tryz.a17x7 Tryz.a17x6 Tryz.a17x5 Tryz.a17x4 Tryz.a17x3 Tryz.a17x2 Tryz.a17x1 Tryz.a17x0
  refine wp_fin ?_
  refine wp_box H rfl fun p S1 H => ?_
  refine wp_box H rfl fun pm S1 H => ?_
  refine wp_alloc H fun a S2 H => ?_
  refine wp_alloc H fun b S2 H => ?_
  refine wp_ldn (o := 0) (n := 29) (cs := e.cs v) H (List.Mem.tail _ (List.Mem.head _)) rfl ?_
  refine wp_callV H (soundE_ok (e := e) (l := l) (v := v) (List.mem_cons_of_mem _ (List.mem_cons_of_mem _ hv)) H) fun S3 H => ?_
  rw [decide_eq_false he]
  refine wp_notF ?_
  repeat (first|refine zA ?_|refine zB rfl ?_|refine zC ?_|refine zD ?_|refine zE rfl ?_|refine zF ?_|refine zG ?_|refine zH ?_|refine zI ?_|refine zJ ?_|refine zK ?_|refine zL rfl ?_|refine zN rfl ?_)
  refine wp_op (v := .agg [I 0, I 0, I 0, I 0, B false]) rfl ?_
  refine wp_store (n := 5) H 1 (c := [I 0, I 0, I 0, I 0, B false]) rfl rfl rfl (by simp) fun S4 H => ?_
  refine wp_set1 (j := 0) H 0 rfl (by simp) ⟨rfl, rfl⟩ fun S5 H => ?_
  have H : Cx B0 W S5 (.obj b (.row [I 2]) :: .obj a (.row [I 0, I 0, I 0, I 0, B false]) :: own) ro := H.tl.tl
  refine wp_ret ⟨.inr rfl, ?_⟩
  refine wp_loadoa (n := 5) H 1 rfl (by simp) ?_
  refine wp_row (j := 0) H 0 rfl rfl ?_
  exact wp_ret ⟨rfl, rfl, (H.dropAt 0).dropAt 0⟩
theorem acc_good {kind a z : Int} {h : Bool} (hx : x.good) (hn : x.n ≤ 1000000) (hz : 0 ≤ z ∧ z < 18446744073709551616) : (x.acc kind a z h).good ∧ (x.acc kind a z h).ws.length = x.ws.length ∧ (x.acc kind a z h).n = x.n + 1 := by
  obtain ⟨hw, hs⟩ := hx
  unfold Me.acc Me.good
  unfold Me.wf at *
  split
  · refine ⟨⟨⟨?_, ?_, ?_, ?_⟩, ?_⟩, ?_, rfl⟩
    · show 1 ≤ (x.ws.set a.toNat z).length; rw [List.length_set]; omega
    · show (x.ws.set a.toNat z).length ≤ 4096; rw [List.length_set]; omega
    · show 0 ≤ x.n + 1; omega
    · show x.n + 1 ≤ 1152921504606846976; omega
    · intro y hy
      rcases List.mem_or_eq_of_mem_set hy with h | rfl
      · exact hs y h
      · exact hz
    · show (x.ws.set a.toNat z).length = _; rw [List.length_set]
  · exact ⟨⟨⟨by show 1 ≤ x.ws.length; omega, by show x.ws.length ≤ 4096; omega, by show 0 ≤ x.n + 1; omega, by show x.n + 1 ≤ 1152921504606846976; omega⟩, hs⟩, rfl, rfl⟩
end
theorem stillOdd_ok {S : AH} {v u : AV} {e : Ex} {l : List Tk} {ws : List Int} (hws : ∀ z ∈ ws, 0 ≤ z ∧ z < 18446744073709551616) (hv : RoSl S v 4 (tks l)) (hu : RoSl S u 1 (uints ws)) : wpC EM (.fn (.func 3) [] []) [.agg (e.cs v), u] S fun r _ => r = B true := by
  refine wpC_fn (b := Tryz.a3) rfl rfl ?_
  have H := Cx.ro2 hv hu
  unfold Tryz.a3 Tryz.a3x14 Tryz.a3x13 Tryz.a3x12 Tryz.a3x11 Tryz.a3x10 Tryz.a3x9 Tryz.a3x8 Tryz.a3x7 Tryz.a3x6 Tryz.a3x5 Tryz.a3x4 Tryz.a3x3 Tryz.a3x2 Tryz.a3x1 Tryz.a3x0
  refine wp_box H rfl fun p S1 H => ?_
  have H : Cx S [] S1 [] (.pt p 0 (e.cs v) :: [.sl v 4 (tks l), .sl u 1 (uints ws)]) := H
  have mp : Fct.pt p 0 (e.cs v) ∈ (.pt p 0 (e.cs v) :: [.sl v 4 (tks l), .sl u 1 (uints ws)]) := by repeat (first | exact List.Mem.head _ | apply List.Mem.tail)
  have mv : Fct.sl v 4 (tks l) ∈ (.pt p 0 (e.cs v) :: [.sl v 4 (tks l), .sl u 1 (uints ws)]) := by repeat (first | exact List.Mem.head _ | apply List.Mem.tail)
  have mu : Fct.sl u 1 (uints ws) ∈ (.pt p 0 (e.cs v) :: [.sl v 4 (tks l), .sl u 1 (uints ws)]) := by repeat (first | exact List.Mem.head _ | apply List.Mem.tail)
  generalize (Fct.pt p 0 (e.cs v) :: [.sl v 4 (tks l), .sl u 1 (uints ws)]) = ro at H mp mv mu
  repeat (first|refine zA ?_|refine zB rfl ?_|refine zC ?_|refine zD ?_|refine zE rfl ?_|refine zF ?_|refine zG ?_|refine zH ?_|refine zI ?_|refine zJ ?_|refine zK ?_|refine zL rfl ?_|refine zN rfl ?_)
  refine wp_ld (o := 28) H mp rfl ?_
  refine wp_len H mv ?_
  rw [Tsk.tks_len]
  have aw : ∀ {S : AH}, wp EM (.call (.fn (.func 6) [] []) [] fun v10 => .ret .ret [v10]) S fun t vs _ => t = .ret ∧ oneOf vs = B true := fun {S} => wp_call (wpC_kn (v := B true) rfl (wp_ret ⟨rfl, rfl⟩))
  refine wp_gtr (fun hbig => ?_) (fun hsm => ?_)
  · repeat (first|refine zA ?_|refine zB rfl ?_|refine zC ?_|refine zD ?_|refine zE rfl ?_|refine zF ?_|refine zG ?_|refine zH ?_|refine zI ?_|refine zJ ?_|refine zK ?_|refine zL rfl ?_|refine zN rfl ?_)
    exact aw
  repeat (first|refine zA ?_|refine zB rfl ?_|refine zC ?_|refine zD ?_|refine zE rfl ?_|refine zF ?_|refine zG ?_|refine zH ?_|refine zI ?_|refine zJ ?_|refine zK ?_|refine zL rfl ?_|refine zN rfl ?_)
  refine wp_len H mu ?_
  rw [uints_len]
  repeat (first|refine zA ?_|refine zB rfl ?_|refine zC ?_|refine zD ?_|refine zE rfl ?_|refine zF ?_|refine zG ?_|refine zH ?_|refine zI ?_|refine zJ ?_|refine zK ?_|refine zL rfl ?_|refine zN rfl ?_)
  refine wp_gtr (fun hbig => ?_) (fun hsm2 => ?_)
  · repeat (first|refine zA ?_|refine zB rfl ?_|refine zC ?_|refine zD ?_|refine zE rfl ?_|refine zF ?_|refine zG ?_|refine zH ?_|refine zI ?_|refine zJ ?_|refine zK ?_|refine zL rfl ?_|refine zN rfl ?_)
    exact aw
  repeat (first|refine zA ?_|refine zB rfl ?_|refine zC ?_|refine zD ?_|refine zE rfl ?_|refine zF ?_|refine zG ?_|refine zH ?_|refine zI ?_|refine zJ ?_|refine zK ?_|refine zL rfl ?_|refine zN rfl ?_)
  refine wp_call (wpC_mono (newC_ok (n := 70) (by omega) (by omega) H) fun r S2 q => ?_)
  obtain ⟨m, bl, rfl, H⟩ := q
  repeat (first|refine zA ?_|refine zB rfl ?_|refine zC ?_|refine zD ?_|refine zE rfl ?_|refine zF ?_|refine zG ?_|refine zH ?_|refine zI ?_|refine zJ ?_|refine zK ?_|refine zL rfl ?_|refine zN rfl ?_)
  refine wp_call (wpC_mono (newR_ok (n := 70) (by omega) (by omega) H) fun r S3 q => ?_)
  obtain ⟨w, wv, rfl, H⟩ := q
  repeat (first|refine zA ?_|refine zB rfl ?_|refine zC ?_|refine zD ?_|refine zE rfl ?_|refine zF ?_|refine zG ?_|refine zH ?_|refine zI ?_|refine zJ ?_|refine zK ?_|refine zL rfl ?_|refine zN rfl ?_)
  refine wp_neq_f rfl ?_
  repeat (first|refine zA ?_|refine zB rfl ?_|refine zC ?_|refine zD ?_|refine zE rfl ?_|refine zF ?_|refine zG ?_|refine zH ?_|refine zI ?_|refine zJ ?_|refine zK ?_|refine zL rfl ?_|refine zN rfl ?_)
  refine wp_neq_f rfl ?_
  repeat (first|refine zA ?_|refine zB rfl ?_|refine zC ?_|refine zD ?_|refine zE rfl ?_|refine zF ?_|refine zG ?_|refine zH ?_|refine zI ?_|refine zJ ?_|refine zK ?_|refine zL rfl ?_|refine zN rfl ?_)
  refine wp_op (e_ptrNil (by kernel_rfl)) ?_
  repeat (first|refine zA ?_|refine zB rfl ?_|refine zC ?_|refine zD ?_|refine zE rfl ?_|refine zF ?_|refine zG ?_|refine zH ?_|refine zI ?_|refine zJ ?_|refine zK ?_|refine zL rfl ?_|refine zN rfl ?_)
  have g0 : (Me.fresh 70).good := by
    unfold Me.good Me.wf Me.fresh
    exact ⟨⟨by simp, by simp, by show (0 : Int) ≤ 0; omega, by show (0 : Int) ≤ 1152921504606846976; omega⟩, fun z hz => by rw [(List.mem_replicate.1 hz).2]; omega⟩
  refine wp_bind (wp_loop (wpL_for ws.length (fun i vs S' => vs = [I (i : Int)] ∧ ∃ x : Me, x.good ∧ x.ws.length = 70 ∧ x.n = i ∧ Cx S [] S' (rMem w wv x ++ pMem m bl x (List.replicate (4096 - 70) (U 0))) ro) ?_ ?_ ⟨rfl, Me.fresh 70, g0, by simp [Me.fresh], rfl, by
    rw [List.append_nil] at H; exact H⟩))
  · rintro i vs S4 hi ⟨rfl, x, hx, hxl, hxn, H⟩
    have hw : ws[i]? = some ws[i] := List.getElem?_eq_getElem hi
    have hz := hws _ (List.getElem_mem hi)
    generalize ws[i] = z at hw hz
    refine wp_len H mu ?_
    rw [uints_len]
    refine wp_lss_t (by omega) ?_
    repeat (first|refine zA ?_|refine zB rfl ?_|refine zC ?_|refine zD ?_|refine zE rfl ?_|refine zF ?_|refine zG ?_|refine zH ?_|refine zI ?_|refine zJ ?_|refine zK ?_|refine zL rfl ?_|refine zN rfl ?_)
    refine wp_bind ?_
    refine wp_saddr H mu (uints_get? hw) fun id off H1 => ?_
    refine wp_load0 H1 (List.Mem.head _) rfl ?_
    clear H1
    refine wp_call (wpC_mono (store_ok' (R := rMem w wv x) hx.1 (H.permS List.perm_append_comm)) fun r S5 H => ?_)
    refine wp_saddr H mu (uints_get? hw) fun id off H1 => ?_
    refine wp_load0 H1 (List.Mem.head _) rfl ?_
    clear H1
    refine wp_call (wpC_mono (storeR_ok hx.1 (H.permS List.perm_append_comm)) fun r S6 H => ?_)
    obtain ⟨k1, k2, k3⟩ := acc_good (kind := 2) (a := (i : Int)) (h := true) hx (by omega) hz
    refine wp_ret ?_
    show wp EM _ _ _
    refine wp_add64 (by omega) (by omega) ?_
    exact wp_ret (.inl ⟨rfl, rfl, _, k1, by rw [k2]; exact hxl, by rw [k3, hxn]; rfl, H⟩)
  rintro vs S4 ⟨rfl, x, hx, hxl, hxn, H⟩
  refine wp_len H mu ?_
  rw [uints_len]
  refine wp_lss_f (by omega) ?_
  repeat (first|refine zA ?_|refine zB rfl ?_|refine zC ?_|refine zD ?_|refine zE rfl ?_|refine zF ?_|refine zG ?_|refine zH ?_|refine zI ?_|refine zJ ?_|refine zK ?_|refine zL rfl ?_|refine zN rfl ?_)
  refine wp_ret ⟨by simp, ?_⟩
  show wp EM _ _ _
  have hrest : x.ws.length + (List.replicate (4096 - 70) (U 0)).length = 4096 := by rw [hxl, List.length_replicate]
  generalize List.replicate (4096 - 70) (U 0) = rest at H hrest
  refine wp_ldn (o := 0) (n := 29) H mp rfl ?_
  refine wp_ldn (o := 0) (n := 29) H mp rfl ?_
  refine wp_call (wpC_mono (quietP_ok (e := e) (l := l) mv hx hrest (H.permS List.perm_append_comm)) fun r S5 q => ?_)
  obtain ⟨b1, rfl, hb1, H⟩ := q
  refine wp_ckn (n := 29) (cs := e.cs v) H mp rfl rfl (Ex.cs_beqS (H.rh _ mv)) ?_
  refine wp_call (wpC_mono (quietD_ok (e := e) (l := l) mv hx (H.permS List.perm_append_comm)) fun r S6 q => ?_)
  obtain ⟨b2, rfl, hb2, H⟩ := q
  have hbb : b1 = b2 := by
    cases b1 <;> cases b2 <;> simp_all
  subst hbb
  refine wp_op (S1 := S6) (v := B false) (by cases b1 <;> kernel_rfl) ?_
  repeat (first|refine zA ?_|refine zB rfl ?_|refine zC ?_|refine zD ?_|refine zE rfl ?_|refine zF ?_|refine zG ?_|refine zH ?_|refine zI ?_|refine zJ ?_|refine zK ?_|refine zL rfl ?_|refine zN rfl ?_)
  refine wp_ldn (o := 0) (n := 29) H mp rfl ?_
  repeat (first|refine zA ?_|refine zB rfl ?_|refine zC ?_|refine zD ?_|refine zE rfl ?_|refine zF ?_|refine zG ?_|refine zH ?_|refine zI ?_|refine zJ ?_|refine zK ?_|refine zL rfl ?_|refine zN rfl ?_)
  refine wp_ldn (o := 0) (n := 29) H mp rfl ?_
  repeat (first|refine zA ?_|refine zB rfl ?_|refine zC ?_|refine zD ?_|refine zE rfl ?_|refine zF ?_|refine zG ?_|refine zH ?_|refine zI ?_|refine zJ ?_|refine zK ?_|refine zL rfl ?_|refine zN rfl ?_)
  refine wp_call (wpC_mono (roundsP_ok (e := e) (l := l) mv H) fun r S7 q => ?_)
  obtain ⟨rfl, H⟩ := q
  refine wp_gchk_t (wp_ckn (n := 29) (cs := e.cs v) H mp rfl rfl (Ex.cs_beqS (H.rh _ mv)) ?_)
  repeat (first|refine zA ?_|refine zB rfl ?_|refine zC ?_|refine zD ?_|refine zE rfl ?_|refine zF ?_|refine zG ?_|refine zH ?_|refine zI ?_|refine zJ ?_|refine zK ?_|refine zL rfl ?_|refine zN rfl ?_)
  refine wp_call (wpC_mono (roundsD_ok (e := e) (l := l) mv H) fun r S8 q => ?_)
  obtain ⟨rfl, H⟩ := q
  repeat (first|refine zA ?_|refine zB rfl ?_|refine zC ?_|refine zD ?_|refine zE rfl ?_|refine zF ?_|refine zG ?_|refine zH ?_|refine zI ?_|refine zJ ?_|refine zK ?_|refine zL rfl ?_|refine zN rfl ?_)
  refine wp_neq_f rfl ?_
  repeat (first|refine zA ?_|refine zB rfl ?_|refine zC ?_|refine zD ?_|refine zE rfl ?_|refine zF ?_|refine zG ?_|refine zH ?_|refine zI ?_|refine zJ ?_|refine zK ?_|refine zL rfl ?_|refine zN rfl ?_)
  refine wp_ldn (o := 0) (n := 29) H mp rfl ?_
  refine wp_callV H (rsoundE_ok (e := e) (l := l) (v := v) mv H) fun S9 H => ?_
  by_cases he : e.ok l
  · rw [decide_eq_true he]
    repeat (first|refine zA ?_|refine zB rfl ?_|refine zC ?_|refine zD ?_|refine zE rfl ?_|refine zF ?_|refine zG ?_|refine zH ?_|refine zI ?_|refine zJ ?_|refine zK ?_|refine zL rfl ?_|refine zN rfl ?_)
    exact aw
  · rw [decide_eq_false he]
    repeat (first|refine zA ?_|refine zB rfl ?_|refine zC ?_|refine zD ?_|refine zE rfl ?_|refine zF ?_|refine zG ?_|refine zH ?_|refine zI ?_|refine zJ ?_|refine zK ?_|refine zL rfl ?_|refine zN rfl ?_)
    refine wp_call (wpC_mono (count_ok' (R := rMem w wv x) (H.permS List.perm_append_comm)) fun r S10 q => ?_)
    obtain ⟨rfl, rfl⟩ := q
    refine wp_ldn (o := 0) (n := 29) H mp rfl ?_
    refine wp_call (wpC_mono (settleBad_ok (m := m) he mv H) fun r S11 q => ?_)
    obtain ⟨rfl, H⟩ := q
    repeat (first|refine zA ?_|refine zB rfl ?_|refine zC ?_|refine zD ?_|refine zE rfl ?_|refine zF ?_|refine zG ?_|refine zH ?_|refine zI ?_|refine zJ ?_|refine zK ?_|refine zL rfl ?_|refine zN rfl ?_)
    refine wp_alloc H fun t S12 H => ?_
    refine wp_store (n := 5) H 0 (c := [I 0, I 0, I 0, I 0, B false]) rfl rfl rfl (by simp) fun S13 H => ?_
    have H : Cx S [] S13 (.obj t (.row [I 0, I 0, I 0, I 0, B false]) :: (rMem w wv x ++ pMem m bl x rest)) ro := H
    refine wp_eql_t rfl ?_
    repeat (first|refine zA ?_|refine zB rfl ?_|refine zC ?_|refine zD ?_|refine zE rfl ?_|refine zF ?_|refine zG ?_|refine zH ?_|refine zI ?_|refine zJ ?_|refine zK ?_|refine zL rfl ?_|refine zN rfl ?_)
    refine wp_loadoa (n := 5) H 0 rfl (by simp) ?_
    repeat (first|refine zA ?_|refine zB rfl ?_|refine zC ?_|refine zD ?_|refine zE rfl ?_|refine zF ?_|refine zG ?_|refine zH ?_|refine zI ?_|refine zJ ?_|refine zK ?_|refine zL rfl ?_|refine zN rfl ?_)
    refine wp_op (v := .agg [I 0, I 0, I 0, I 0, B false]) rfl ?_
    repeat (first|refine zA ?_|refine zB rfl ?_|refine zC ?_|refine zD ?_|refine zE rfl ?_|refine zF ?_|refine zG ?_|refine zH ?_|refine zI ?_|refine zJ ?_|refine zK ?_|refine zL rfl ?_|refine zN rfl ?_)
    refine wp_op (S1 := S13) (v := B true) (by kernel_rfl) ?_
    repeat (first|refine zA ?_|refine zB rfl ?_|refine zC ?_|refine zD ?_|refine zE rfl ?_|refine zF ?_|refine zG ?_|refine zH ?_|refine zI ?_|refine zJ ?_|refine zK ?_|refine zL rfl ?_|refine zN rfl ?_)
    refine wp_call (wpC_mono (count_ok' (R := rMem w wv x) ((H.dropAt 0).permS List.perm_append_comm)) fun r S14 q => ?_)
    obtain ⟨rfl, rfl⟩ := q
    repeat (first|refine zA ?_|refine zB rfl ?_|refine zC ?_|refine zD ?_|refine zE rfl ?_|refine zF ?_|refine zG ?_|refine zH ?_|refine zI ?_|refine zJ ?_|refine zK ?_|refine zL rfl ?_|refine zN rfl ?_)
    refine wp_eql_t rfl ?_
    repeat (first|refine zA ?_|refine zB rfl ?_|refine zC ?_|refine zD ?_|refine zE rfl ?_|refine zF ?_|refine zG ?_|refine zH ?_|refine zI ?_|refine zJ ?_|refine zK ?_|refine zL rfl ?_|refine zN rfl ?_)
    refine wp_call (wpC_kn (v := B true) rfl ?_)
    repeat (first|refine zA ?_|refine zB rfl ?_|refine zC ?_|refine zD ?_|refine zE rfl ?_|refine zF ?_|refine zG ?_|refine zH ?_|refine zI ?_|refine zJ ?_|refine zK ?_|refine zL rfl ?_|refine zN rfl ?_)
    exact wp_ret ⟨rfl, rfl⟩
end Go.Abs
