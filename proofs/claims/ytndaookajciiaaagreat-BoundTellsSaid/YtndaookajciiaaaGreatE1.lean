/- functions of this cut: what they compute, in the abstract machine. Conditions: stated in each theorem -/
import Derived.Test.YtndaookajciiaaaGreatE0
set_option linter.unusedVariables false
set_option linter.unusedSimpArgs false
namespace Go.Abs
open Go.Proofs
set_option maxRecDepth 100000
set_option linter.unusedVariables false
open Tsk (Tk tks tchk)
/-! ### the bounds -/
def wayI (m c h : Int) : Int := 12 * h * (2 * c + 1) + 24 * c + 4 * m + 200
def holdsI (m c h : Int) : Int := 4 * m * (m + 2) * (h + 2) * (c + 10)
def anyI (m c h : Int) : Int := m * wayI m c h * (holdsI m c h + 1)
def sized (m c h : Int) : Prop := 1 ≤ m ∧ m ≤ 64 ∧ 1 ≤ c ∧ c ≤ 128 ∧ 1 ≤ h ∧ h ≤ 4
theorem way_bd {m c h : Int} (s : sized m c h) : (0 ≤ 12 * h * (2 * c + 1) ∧ 12 * h * (2 * c + 1) ≤ 48 * 257) ∧ 0 < wayI m c h ∧ wayI m c h ≤ 20000 := by
  unfold sized at s
  have := mul_bd (a := 12 * h) (b := 2 * c + 1) (A := 48) (C := 257) (by omega) (by omega) (by omega) (by omega)
  unfold wayI
  omega
theorem holds_bd {m c h : Int} (s : sized m c h) : (0 ≤ 4 * m * (m + 2) ∧ 4 * m * (m + 2) ≤ 256 * 66) ∧ (0 ≤ 4 * m * (m + 2) * (h + 2) ∧ 4 * m * (m + 2) * (h + 2) ≤ 256 * 66 * 6) ∧ 0 ≤ holdsI m c h ∧ holdsI m c h ≤ 256 * 66 * 6 * 138 := by
  unfold sized at s
  have h1 := mul_bd (a := 4 * m) (b := m + 2) (A := 256) (C := 66) (by omega) (by omega) (by omega) (by omega)
  have h2 := mul_bd (a := 4 * m * (m + 2)) (b := h + 2) (A := 256 * 66) (C := 6) h1.1 h1.2 (by omega) (by omega)
  have h3 := mul_bd (a := 4 * m * (m + 2) * (h + 2)) (b := c + 10) (A := 256 * 66 * 6) (C := 138) h2.1 h2.2 (by omega) (by omega)
  exact ⟨h1, h2, h3⟩
theorem any_bd {m c h : Int} (s : sized m c h) : (0 ≤ m * wayI m c h ∧ m * wayI m c h ≤ 64 * 20000) ∧ 0 ≤ anyI m c h ∧ anyI m c h ≤ 64 * 20000 * 14000000 := by
  have h1 := way_bd s
  have h2 := holds_bd s
  unfold sized at s
  have h3 := mul_bd (a := m) (b := wayI m c h) (A := 64) (C := 20000) (by omega) (by omega) (by omega) (by omega)
  have h4 := mul_bd (a := m * wayI m c h) (b := holdsI m c h + 1) (A := 64 * 20000) (C := 14000000) h3.1 h3.2 (by omega) (by omega)
  exact ⟨h3, h4⟩
theorem Ex.ok.sized {e : Ex} {l : List Tk} (h : e.ok l) : sized e.t.cores e.t.fsize e.t.ht := by
  unfold Ex.ok To.ok at h
  unfold Abs.sized
  omega
def Ex.way (e : Ex) (l : List Tk) : Int := if e.ok l then wayI e.t.cores e.t.fsize e.t.ht else 0
def Ex.holds (e : Ex) (l : List Tk) : Int := if e.ok l then holdsI e.t.cores e.t.fsize e.t.ht else 0
def Ex.any (e : Ex) (l : List Tk) : Int := if e.ok l then anyI e.t.cores e.t.fsize e.t.ht else 0
section
variable {B0 S : AH} {W : List Nat} {own : List Own} {ro : List Fct} {Q : Post} {k : AV → AC} {v : AV} {e : Ex} {l : List Tk}
theorem Ex.cs_beq (hv : slOk S v 4 (tks l)) : ∀ x ∈ e.cs v, AV.beq x x = true := by
  have hb : AV.beq v v = true := by
    rcases hv with ⟨rfl, _⟩ | ⟨id, off, c, (⟨cap, _, _, rfl⟩ | ⟨cap, _, _, rfl⟩), _⟩
    · rfl
    · show (Nat.beq id id && Nat.beq off off && Nat.beq (tks l).length (tks l).length && Nat.beq cap cap) = true
      simp only [Nat.beq_refl, Bool.and_self]
    · show (Nat.beq id id && Nat.beq off off && Nat.beq (tks l).length (tks l).length && Nat.beq cap cap && Nat.beq 4 4) = true
      simp only [Nat.beq_refl, Bool.and_self]
  intro x hx
  simp only [Ex.cs, List.mem_cons, List.not_mem_nil, or_false] at hx
  rcases hx with rfl | rfl | rfl | rfl | rfl | rfl | rfl | rfl | rfl | rfl | rfl | rfl | rfl | rfl | rfl | rfl | rfl | rfl | rfl | rfl | rfl | rfl | rfl | rfl | rfl | rfl | rfl | rfl | rfl
  all_goals first | exact beq_num | exact hb
theorem bounds_ok {S : AH} {m c h : Int} (s : sized m c h) : wpC EM (.fn (.func 35) [] []) [.agg [I m, I c, I h]] S fun r S' => r = .tup [I (wayI m c h), I (holdsI m c h), I (anyI m c h)] ∧ Grows S S' := by
  refine wpC_fn (b := Tryz.a35) rfl rfl ?_
  have H : Cx S [] S [] [] := Cx.enter (by simp)
  have h1 := way_bd s
  have h2 := holds_bd s
  have h3 := any_bd s
  have s0 := s
  unfold sized at s
  unfold Tryz.a35 Tryz.a35x3 Tryz.a35x2 Tryz.a35x1 Tryz.a35x0
  unfold anyI at h3
  unfold wayI at h1 h3
  unfold holdsI at h2 h3
  refine wp_box H rfl fun p S1 H => ?_
  repeat' (first | (first|refine zA ?_|refine zB rfl ?_|refine zC ?_|refine zD ?_|refine zE rfl ?_|refine zF ?_|refine zG ?_|refine zH ?_|refine zI ?_|refine zJ ?_|refine zK ?_|refine zL rfl ?_|refine zN rfl ?_) | refine wp_ld (by assumption) (by repeat (first | exact List.Mem.head _ | apply List.Mem.tail)) rfl ?_ | refine wp_add64 (by omega) (by omega) ?_ | refine wp_mul64 (by omega) (by omega) ?_)
  exact wp_ret ⟨rfl, rfl, H.grows⟩
theorem of_ok (hv : Fct.sl v 4 (tks l) ∈ ro) (H : Cx B0 W S own ro) : wpC EM (.fn (.func 34) [] []) [.agg (e.cs v)] S fun r S' => r = (if e.ok l then .tup [.agg [I e.t.cores, I e.t.fsize, I e.t.ht], B true] else .tup [.agg [I 0, I 0, I 0], B false]) ∧ Grows S S' := by
  refine wpC_fn (b := Tryz.a34) rfl rfl ?_
  have hv0 : RoSl S v 4 (tks l) := H.roSl hv
  clear H
  have H := Cx.ro1 hv0
  unfold Tryz.a34 Tryz.a34x3 Tryz.a34x2 Tryz.a34x1 Tryz.a34x0
  refine wp_fin ?_
  refine wp_box H rfl fun p S1 H => ?_
  refine wp_alloc H fun q S2 H => ?_
  refine wp_ldn H (by repeat (first | exact List.Mem.head _ | apply List.Mem.tail)) rfl ?_
  refine wp_callV H (soundE_ok (e := e) (l := l) (by repeat (first | exact List.Mem.head _ | apply List.Mem.tail)) H) fun S3 H => ?_
  by_cases hok : e.ok l
  · rw [decide_eq_true hok, if_pos hok]
    refine wp_notT ?_
    repeat (first|refine zA ?_|refine zB rfl ?_|refine zC ?_|refine zD ?_|refine zE rfl ?_|refine zF ?_|refine zG ?_|refine zH ?_|refine zI ?_|refine zJ ?_|refine zK ?_|refine zL rfl ?_|refine zN rfl ?_)
    refine wp_ldn H (by repeat (first | exact List.Mem.head _ | apply List.Mem.tail)) rfl ?_
    refine wp_tmpN H rfl rfl rfl fun q2 S4 H => ?_
    repeat' (first | (first|refine zA ?_|refine zB rfl ?_|refine zC ?_|refine zD ?_|refine zE rfl ?_|refine zF ?_|refine zG ?_|refine zH ?_|refine zI ?_|refine zJ ?_|refine zK ?_|refine zL rfl ?_|refine zN rfl ?_) | refine wp_ld (by assumption) (by repeat (first | exact List.Mem.head _ | apply List.Mem.tail)) rfl ?_)
    refine wp_op (v := .agg [I e.t.cores, I e.t.fsize, I e.t.ht]) rfl ?_
    refine wp_store H 0 (c := [I 0, I 0, I 0]) rfl rfl rfl (by simp) fun S5 H => ?_
    refine wp_ret ⟨.inr rfl, ?_⟩
    refine wp_loadoa (n := 3) (c := [I e.t.cores, I e.t.fsize, I e.t.ht]) H 0 rfl (by simp) ?_
    exact wp_ret ⟨rfl, rfl, H.grows⟩
  · rw [decide_eq_false hok, if_neg hok]
    refine wp_notF ?_
    repeat (first|refine zA ?_|refine zB rfl ?_|refine zC ?_|refine zD ?_|refine zE rfl ?_|refine zF ?_|refine zG ?_|refine zH ?_|refine zI ?_|refine zJ ?_|refine zK ?_|refine zL rfl ?_|refine zN rfl ?_)
    refine wp_ret ⟨.inr rfl, ?_⟩
    refine wp_loadoa (n := 3) (c := [I 0, I 0, I 0]) H 0 rfl (by simp) ?_
    exact wp_ret ⟨rfl, rfl, H.grows⟩
theorem way_ok (hv : Fct.sl v 4 (tks l) ∈ ro) (H : Cx B0 W S own ro) : wpC EM (.fn (.func 8) [] []) [.agg (e.cs v)] S fun r S' => r = I (e.way l) ∧ Grows S S' := by
  refine wpC_fn (b := Tryz.a8) rfl rfl ?_
  have hv0 : RoSl S v 4 (tks l) := H.roSl hv
  clear H
  have H := Cx.ro1 hv0
  unfold Tryz.a8 Tryz.a8x1 Tryz.a8x0 Ex.way
  refine wp_box H rfl fun p S1 H => ?_
  refine wp_ldn H (by repeat (first | exact List.Mem.head _ | apply List.Mem.tail)) rfl ?_
  refine wp_callV H (of_ok (e := e) (l := l) (by repeat (first | exact List.Mem.head _ | apply List.Mem.tail)) H) fun S3 H => ?_
  by_cases hok : e.ok l
  · rw [if_pos hok, if_pos hok]
    repeat (first|refine zA ?_|refine zB rfl ?_|refine zC ?_|refine zD ?_|refine zE rfl ?_|refine zF ?_|refine zG ?_|refine zH ?_|refine zI ?_|refine zJ ?_|refine zK ?_|refine zL rfl ?_|refine zN rfl ?_)
    refine wp_tmpN H rfl rfl rfl fun q2 S4 H => ?_
    refine wp_notT ?_
    repeat (first|refine zA ?_|refine zB rfl ?_|refine zC ?_|refine zD ?_|refine zE rfl ?_|refine zF ?_|refine zG ?_|refine zH ?_|refine zI ?_|refine zJ ?_|refine zK ?_|refine zL rfl ?_|refine zN rfl ?_)
    refine wp_ldn H (by repeat (first | exact List.Mem.head _ | apply List.Mem.tail)) rfl ?_
    refine wp_callV H (bounds_ok hok.sized) fun S5 H => ?_
    repeat (first|refine zA ?_|refine zB rfl ?_|refine zC ?_|refine zD ?_|refine zE rfl ?_|refine zF ?_|refine zG ?_|refine zH ?_|refine zI ?_|refine zJ ?_|refine zK ?_|refine zL rfl ?_|refine zN rfl ?_)
    exact wp_ret ⟨rfl, rfl, H.grows⟩
  · rw [if_neg hok, if_neg hok]
    repeat (first|refine zA ?_|refine zB rfl ?_|refine zC ?_|refine zD ?_|refine zE rfl ?_|refine zF ?_|refine zG ?_|refine zH ?_|refine zI ?_|refine zJ ?_|refine zK ?_|refine zL rfl ?_|refine zN rfl ?_)
    refine wp_tmpN H rfl rfl rfl fun q2 S4 H => ?_
    refine wp_notF ?_
    repeat (first|refine zA ?_|refine zB rfl ?_|refine zC ?_|refine zD ?_|refine zE rfl ?_|refine zF ?_|refine zG ?_|refine zH ?_|refine zI ?_|refine zJ ?_|refine zK ?_|refine zL rfl ?_|refine zN rfl ?_)
    exact wp_ret ⟨rfl, rfl, H.grows⟩
theorem holds_ok (hv : Fct.sl v 4 (tks l) ∈ ro) (H : Cx B0 W S own ro) : wpC EM (.fn (.func 10) [] []) [.agg (e.cs v)] S fun r S' => r = I (e.holds l) ∧ Grows S S' := by
  refine wpC_fn (b := Tryz.a10) rfl rfl ?_
  have hv0 : RoSl S v 4 (tks l) := H.roSl hv
  clear H
  have H := Cx.ro1 hv0
  unfold Tryz.a10 Tryz.a10x1 Tryz.a10x0 Ex.holds
  refine wp_box H rfl fun p S1 H => ?_
  refine wp_ldn H (by repeat (first | exact List.Mem.head _ | apply List.Mem.tail)) rfl ?_
  refine wp_callV H (of_ok (e := e) (l := l) (by repeat (first | exact List.Mem.head _ | apply List.Mem.tail)) H) fun S3 H => ?_
  by_cases hok : e.ok l
  · rw [if_pos hok, if_pos hok]
    repeat (first|refine zA ?_|refine zB rfl ?_|refine zC ?_|refine zD ?_|refine zE rfl ?_|refine zF ?_|refine zG ?_|refine zH ?_|refine zI ?_|refine zJ ?_|refine zK ?_|refine zL rfl ?_|refine zN rfl ?_)
    refine wp_tmpN H rfl rfl rfl fun q2 S4 H => ?_
    refine wp_notT ?_
    repeat (first|refine zA ?_|refine zB rfl ?_|refine zC ?_|refine zD ?_|refine zE rfl ?_|refine zF ?_|refine zG ?_|refine zH ?_|refine zI ?_|refine zJ ?_|refine zK ?_|refine zL rfl ?_|refine zN rfl ?_)
    refine wp_ldn H (by repeat (first | exact List.Mem.head _ | apply List.Mem.tail)) rfl ?_
    refine wp_callV H (bounds_ok hok.sized) fun S5 H => ?_
    repeat (first|refine zA ?_|refine zB rfl ?_|refine zC ?_|refine zD ?_|refine zE rfl ?_|refine zF ?_|refine zG ?_|refine zH ?_|refine zI ?_|refine zJ ?_|refine zK ?_|refine zL rfl ?_|refine zN rfl ?_)
    exact wp_ret ⟨rfl, rfl, H.grows⟩
  · rw [if_neg hok, if_neg hok]
    repeat (first|refine zA ?_|refine zB rfl ?_|refine zC ?_|refine zD ?_|refine zE rfl ?_|refine zF ?_|refine zG ?_|refine zH ?_|refine zI ?_|refine zJ ?_|refine zK ?_|refine zL rfl ?_|refine zN rfl ?_)
    refine wp_tmpN H rfl rfl rfl fun q2 S4 H => ?_
    refine wp_notF ?_
    repeat (first|refine zA ?_|refine zB rfl ?_|refine zC ?_|refine zD ?_|refine zE rfl ?_|refine zF ?_|refine zG ?_|refine zH ?_|refine zI ?_|refine zJ ?_|refine zK ?_|refine zL rfl ?_|refine zN rfl ?_)
    exact wp_ret ⟨rfl, rfl, H.grows⟩
theorem any_ok (hv : Fct.sl v 4 (tks l) ∈ ro) (H : Cx B0 W S own ro) : wpC EM (.fn (.func 12) [] []) [.agg (e.cs v)] S fun r S' => r = I (e.any l) ∧ Grows S S' := by
  refine wpC_fn (b := Tryz.a12) rfl rfl ?_
  have hv0 : RoSl S v 4 (tks l) := H.roSl hv
  clear H
  have H := Cx.ro1 hv0
  unfold Tryz.a12 Tryz.a12x1 Tryz.a12x0 Ex.any
  refine wp_box H rfl fun p S1 H => ?_
  refine wp_ldn H (by repeat (first | exact List.Mem.head _ | apply List.Mem.tail)) rfl ?_
  refine wp_callV H (of_ok (e := e) (l := l) (by repeat (first | exact List.Mem.head _ | apply List.Mem.tail)) H) fun S3 H => ?_
  by_cases hok : e.ok l
  · rw [if_pos hok, if_pos hok]
    repeat (first|refine zA ?_|refine zB rfl ?_|refine zC ?_|refine zD ?_|refine zE rfl ?_|refine zF ?_|refine zG ?_|refine zH ?_|refine zI ?_|refine zJ ?_|refine zK ?_|refine zL rfl ?_|refine zN rfl ?_)
    refine wp_tmpN H rfl rfl rfl fun q2 S4 H => ?_
    refine wp_notT ?_
    repeat (first|refine zA ?_|refine zB rfl ?_|refine zC ?_|refine zD ?_|refine zE rfl ?_|refine zF ?_|refine zG ?_|refine zH ?_|refine zI ?_|refine zJ ?_|refine zK ?_|refine zL rfl ?_|refine zN rfl ?_)
    refine wp_ldn H (by repeat (first | exact List.Mem.head _ | apply List.Mem.tail)) rfl ?_
    refine wp_callV H (bounds_ok hok.sized) fun S5 H => ?_
    repeat (first|refine zA ?_|refine zB rfl ?_|refine zC ?_|refine zD ?_|refine zE rfl ?_|refine zF ?_|refine zG ?_|refine zH ?_|refine zI ?_|refine zJ ?_|refine zK ?_|refine zL rfl ?_|refine zN rfl ?_)
    exact wp_ret ⟨rfl, rfl, H.grows⟩
  · rw [if_neg hok, if_neg hok]
    repeat (first|refine zA ?_|refine zB rfl ?_|refine zC ?_|refine zD ?_|refine zE rfl ?_|refine zF ?_|refine zG ?_|refine zH ?_|refine zI ?_|refine zJ ?_|refine zK ?_|refine zL rfl ?_|refine zN rfl ?_)
    refine wp_tmpN H rfl rfl rfl fun q2 S4 H => ?_
    refine wp_notF ?_
    repeat (first|refine zA ?_|refine zB rfl ?_|refine zC ?_|refine zD ?_|refine zE rfl ?_|refine zF ?_|refine zG ?_|refine zH ?_|refine zI ?_|refine zJ ?_|refine zK ?_|refine zL rfl ?_|refine zN rfl ?_)
    exact wp_ret ⟨rfl, rfl, H.grows⟩
theorem rway_ok (hv : Fct.sl v 4 (tks l) ∈ ro) (H : Cx B0 W S own ro) : wpC EM (.fn (.func 9) [] []) [.agg (e.cs v)] S fun r S' => r = I (e.way l) ∧ Grows S S' := by
  refine wpC_fn (b := Tryz.a9) rfl rfl ?_
  have hv0 : RoSl S v 4 (tks l) := H.roSl hv
  clear H
  have H := Cx.ro1 hv0
  unfold Tryz.a9 Tryz.a9x3 Tryz.a9x2 Tryz.a9x1 Tryz.a9x0 Ex.way
  refine wp_box H rfl fun p S1 H => ?_
  refine wp_ldn H (by repeat (first | exact List.Mem.head _ | apply List.Mem.tail)) rfl ?_
  refine wp_callV H (rsoundE_ok (e := e) (l := l) (by repeat (first | exact List.Mem.head _ | apply List.Mem.tail)) H) fun S3 H => ?_
  by_cases hok : e.ok l
  · rw [decide_eq_true hok, if_pos hok]
    have h1 := way_bd hok.sized
    have s := hok.sized
    unfold sized at s
    unfold wayI at h1
    refine wp_notT ?_
    repeat' (first | (first|refine zA ?_|refine zB rfl ?_|refine zC ?_|refine zD ?_|refine zE rfl ?_|refine zF ?_|refine zG ?_|refine zH ?_|refine zI ?_|refine zJ ?_|refine zK ?_|refine zL rfl ?_|refine zN rfl ?_) | refine wp_ld (by assumption) (by repeat (first | exact List.Mem.head _ | apply List.Mem.tail)) rfl ?_ | refine wp_add64 (by omega) (by omega) ?_ | refine wp_mul64 (by omega) (by omega) ?_)
    exact wp_ret ⟨rfl, rfl, H.grows⟩
  · rw [decide_eq_false hok, if_neg hok]
    refine wp_notF ?_
    repeat (first|refine zA ?_|refine zB rfl ?_|refine zC ?_|refine zD ?_|refine zE rfl ?_|refine zF ?_|refine zG ?_|refine zH ?_|refine zI ?_|refine zJ ?_|refine zK ?_|refine zL rfl ?_|refine zN rfl ?_)
    exact wp_ret ⟨rfl, rfl, H.grows⟩
theorem rholds_ok (hv : Fct.sl v 4 (tks l) ∈ ro) (H : Cx B0 W S own ro) : wpC EM (.fn (.func 11) [] []) [.agg (e.cs v)] S fun r S' => r = I (e.holds l) ∧ Grows S S' := by
  refine wpC_fn (b := Tryz.a11) rfl rfl ?_
  have hv0 : RoSl S v 4 (tks l) := H.roSl hv
  clear H
  have H := Cx.ro1 hv0
  unfold Tryz.a11 Tryz.a11x3 Tryz.a11x2 Tryz.a11x1 Tryz.a11x0 Ex.holds
  refine wp_box H rfl fun p S1 H => ?_
  refine wp_ldn H (by repeat (first | exact List.Mem.head _ | apply List.Mem.tail)) rfl ?_
  refine wp_callV H (rsoundE_ok (e := e) (l := l) (by repeat (first | exact List.Mem.head _ | apply List.Mem.tail)) H) fun S3 H => ?_
  by_cases hok : e.ok l
  · rw [decide_eq_true hok, if_pos hok]
    have h1 := holds_bd hok.sized
    have s := hok.sized
    unfold sized at s
    unfold holdsI at h1
    refine wp_notT ?_
    repeat' (first | (first|refine zA ?_|refine zB rfl ?_|refine zC ?_|refine zD ?_|refine zE rfl ?_|refine zF ?_|refine zG ?_|refine zH ?_|refine zI ?_|refine zJ ?_|refine zK ?_|refine zL rfl ?_|refine zN rfl ?_) | refine wp_ld (by assumption) (by repeat (first | exact List.Mem.head _ | apply List.Mem.tail)) rfl ?_ | refine wp_add64 (by omega) (by omega) ?_ | refine wp_mul64 (by omega) (by omega) ?_)
    exact wp_ret ⟨rfl, rfl, H.grows⟩
  · rw [decide_eq_false hok, if_neg hok]
    refine wp_notF ?_
    repeat (first|refine zA ?_|refine zB rfl ?_|refine zC ?_|refine zD ?_|refine zE rfl ?_|refine zF ?_|refine zG ?_|refine zH ?_|refine zI ?_|refine zJ ?_|refine zK ?_|refine zL rfl ?_|refine zN rfl ?_)
    exact wp_ret ⟨rfl, rfl, H.grows⟩
theorem rany_ok (hv : Fct.sl v 4 (tks l) ∈ ro) (H : Cx B0 W S own ro) : wpC EM (.fn (.func 13) [] []) [.agg (e.cs v)] S fun r S' => r = I (e.any l) ∧ Grows S S' := by
  refine wpC_fn (b := Tryz.a13) rfl rfl ?_
  have hv0 : RoSl S v 4 (tks l) := H.roSl hv
  clear H
  have H := Cx.ro1 hv0
  unfold Tryz.a13 Tryz.a13x2 Tryz.a13x1 Tryz.a13x0
  refine wp_box H rfl fun p S1 H => ?_
  refine wp_ldn H (by repeat (first | exact List.Mem.head _ | apply List.Mem.tail)) rfl ?_
  refine wp_callV H (rsoundE_ok (e := e) (l := l) (by repeat (first | exact List.Mem.head _ | apply List.Mem.tail)) H) fun S3 H => ?_
  by_cases hok : e.ok l
  · rw [decide_eq_true hok]
    have h1 := way_bd hok.sized
    have h2 := holds_bd hok.sized
    have h3 := any_bd hok.sized
    refine wp_notT ?_
    repeat (first|refine zA ?_|refine zB rfl ?_|refine zC ?_|refine zD ?_|refine zE rfl ?_|refine zF ?_|refine zG ?_|refine zH ?_|refine zI ?_|refine zJ ?_|refine zK ?_|refine zL rfl ?_|refine zN rfl ?_)
    refine wp_ld H (by repeat (first | exact List.Mem.head _ | apply List.Mem.tail)) rfl ?_
    refine wp_ldn H (by repeat (first | exact List.Mem.head _ | apply List.Mem.tail)) rfl ?_
    refine wp_ldn H (by repeat (first | exact List.Mem.head _ | apply List.Mem.tail)) rfl ?_
    refine wp_callV H (rway_ok (e := e) (l := l) (by repeat (first | exact List.Mem.head _ | apply List.Mem.tail)) H) fun S4 H => ?_
    refine wp_ck H (by repeat (first | exact List.Mem.head _ | apply List.Mem.tail)) rfl beq_num ?_
    refine wp_ckn (n := 29) (cs := e.cs v) H (by repeat (first | exact List.Mem.head _ | apply List.Mem.tail)) rfl rfl (Ex.cs_beq (H.rh _ (show Fct.sl v 4 (tks l) ∈ _ by repeat (first | exact List.Mem.head _ | apply List.Mem.tail)))) ?_
    have hw : e.way l = wayI e.t.cores e.t.fsize e.t.ht := if_pos hok
    have hh : e.holds l = holdsI e.t.cores e.t.fsize e.t.ht := if_pos hok
    rw [hw]
    refine wp_mul64 (by omega) (by omega) ?_
    refine wp_callV H (rholds_ok (e := e) (l := l) (by repeat (first | exact List.Mem.head _ | apply List.Mem.tail)) H) fun S5 H => ?_
    rw [hh]
    refine wp_ck H (by repeat (first | exact List.Mem.head _ | apply List.Mem.tail)) rfl beq_num ?_
    refine wp_add64 (by omega) (by omega) ?_
    have h4 : anyI e.t.cores e.t.fsize e.t.ht = e.t.cores * wayI e.t.cores e.t.fsize e.t.ht * (holdsI e.t.cores e.t.fsize e.t.ht + 1) := rfl
    refine wp_mul64 (by omega) (by omega) ?_
    refine wp_ret ⟨rfl, ?_, H.grows⟩
    unfold Ex.any
    rw [if_pos hok, h4]; rfl
  · rw [decide_eq_false hok]
    refine wp_notF ?_
    repeat (first|refine zA ?_|refine zB rfl ?_|refine zC ?_|refine zD ?_|refine zE rfl ?_|refine zF ?_|refine zG ?_|refine zH ?_|refine zI ?_|refine zJ ?_|refine zK ?_|refine zL rfl ?_|refine zN rfl ?_)
    refine wp_ret ⟨rfl, ?_, H.grows⟩
    unfold Ex.any
    rw [if_neg hok]; rfl
theorem boundTells_ok {S : AH} {v : AV} {e : Ex} {l : List Tk} (hv : RoSl S v 4 (tks l)) : wpC EM (.fn (.func 3) [] []) [.agg (e.cs v)] S fun r _ => r = B true := by
  refine wpC_fn (b := Tryz.a3) rfl rfl ?_
  have H := Cx.ro1 hv
  unfold Tryz.a3 Tryz.a3x4 Tryz.a3x3 Tryz.a3x2 Tryz.a3x1 Tryz.a3x0
  refine wp_box H rfl fun p S1 H => ?_
  repeat (first|refine zA ?_|refine zB rfl ?_|refine zC ?_|refine zD ?_|refine zE rfl ?_|refine zF ?_|refine zG ?_|refine zH ?_|refine zI ?_|refine zJ ?_|refine zK ?_|refine zL rfl ?_|refine zN rfl ?_)
  refine wp_ld H (by repeat (first | exact List.Mem.head _ | apply List.Mem.tail)) rfl ?_
  refine wp_len H (by repeat (first | exact List.Mem.head _ | apply List.Mem.tail)) ?_
  rw [Tsk.tks_len]
  refine wp_gtr (fun hbig => ?_) (fun hsm => ?_)
  · repeat (first|refine zA ?_|refine zB rfl ?_|refine zC ?_|refine zD ?_|refine zE rfl ?_|refine zF ?_|refine zG ?_|refine zH ?_|refine zI ?_|refine zJ ?_|refine zK ?_|refine zL rfl ?_|refine zN rfl ?_)
    exact wp_call (wpC_kn (v := B true) rfl (wp_ret ⟨rfl, rfl⟩))
  repeat (first|refine zA ?_|refine zB rfl ?_|refine zC ?_|refine zD ?_|refine zE rfl ?_|refine zF ?_|refine zG ?_|refine zH ?_|refine zI ?_|refine zJ ?_|refine zK ?_|refine zL rfl ?_|refine zN rfl ?_)
  have beq : ∀ {S1 own ro}, Cx S [] S1 own ro → Fct.sl v 4 (tks l) ∈ ro → ∀ x ∈ e.cs v, AV.beq x x = true := fun H hm => Ex.cs_beq (H.rh _ hm)
  refine wp_ldn H (by repeat (first | exact List.Mem.head _ | apply List.Mem.tail)) rfl ?_
  refine wp_ldn H (by repeat (first | exact List.Mem.head _ | apply List.Mem.tail)) rfl ?_
  refine wp_callV H (way_ok (e := e) (l := l) (by repeat (first | exact List.Mem.head _ | apply List.Mem.tail)) H) fun S4 H => ?_
  refine wp_ckn (n := 29) (cs := e.cs v) H (by repeat (first | exact List.Mem.head _ | apply List.Mem.tail)) rfl rfl (beq H (by repeat (first | exact List.Mem.head _ | apply List.Mem.tail))) ?_
  refine wp_callV H (rway_ok (e := e) (l := l) (by repeat (first | exact List.Mem.head _ | apply List.Mem.tail)) H) fun S4 H => ?_
  refine wp_eql_t rfl ?_
  repeat (first|refine zA ?_|refine zB rfl ?_|refine zC ?_|refine zD ?_|refine zE rfl ?_|refine zF ?_|refine zG ?_|refine zH ?_|refine zI ?_|refine zJ ?_|refine zK ?_|refine zL rfl ?_|refine zN rfl ?_)
  refine wp_ldn H (by repeat (first | exact List.Mem.head _ | apply List.Mem.tail)) rfl ?_
  repeat (first|refine zA ?_|refine zB rfl ?_|refine zC ?_|refine zD ?_|refine zE rfl ?_|refine zF ?_|refine zG ?_|refine zH ?_|refine zI ?_|refine zJ ?_|refine zK ?_|refine zL rfl ?_|refine zN rfl ?_)
  refine wp_ldn H (by repeat (first | exact List.Mem.head _ | apply List.Mem.tail)) rfl ?_
  repeat (first|refine zA ?_|refine zB rfl ?_|refine zC ?_|refine zD ?_|refine zE rfl ?_|refine zF ?_|refine zG ?_|refine zH ?_|refine zI ?_|refine zJ ?_|refine zK ?_|refine zL rfl ?_|refine zN rfl ?_)
  refine wp_callV H (holds_ok (e := e) (l := l) (by repeat (first | exact List.Mem.head _ | apply List.Mem.tail)) H) fun S4 H => ?_
  refine wp_gchk_t ?_
  refine wp_ckn (n := 29) (cs := e.cs v) H (by repeat (first | exact List.Mem.head _ | apply List.Mem.tail)) rfl rfl (beq H (by repeat (first | exact List.Mem.head _ | apply List.Mem.tail))) ?_
  repeat (first|refine zA ?_|refine zB rfl ?_|refine zC ?_|refine zD ?_|refine zE rfl ?_|refine zF ?_|refine zG ?_|refine zH ?_|refine zI ?_|refine zJ ?_|refine zK ?_|refine zL rfl ?_|refine zN rfl ?_)
  refine wp_callV H (rholds_ok (e := e) (l := l) (by repeat (first | exact List.Mem.head _ | apply List.Mem.tail)) H) fun S4 H => ?_
  repeat (first|refine zA ?_|refine zB rfl ?_|refine zC ?_|refine zD ?_|refine zE rfl ?_|refine zF ?_|refine zG ?_|refine zH ?_|refine zI ?_|refine zJ ?_|refine zK ?_|refine zL rfl ?_|refine zN rfl ?_)
  refine wp_eql_t rfl ?_
  repeat (first|refine zA ?_|refine zB rfl ?_|refine zC ?_|refine zD ?_|refine zE rfl ?_|refine zF ?_|refine zG ?_|refine zH ?_|refine zI ?_|refine zJ ?_|refine zK ?_|refine zL rfl ?_|refine zN rfl ?_)
  refine wp_ldn H (by repeat (first | exact List.Mem.head _ | apply List.Mem.tail)) rfl ?_
  repeat (first|refine zA ?_|refine zB rfl ?_|refine zC ?_|refine zD ?_|refine zE rfl ?_|refine zF ?_|refine zG ?_|refine zH ?_|refine zI ?_|refine zJ ?_|refine zK ?_|refine zL rfl ?_|refine zN rfl ?_)
  refine wp_ldn H (by repeat (first | exact List.Mem.head _ | apply List.Mem.tail)) rfl ?_
  repeat (first|refine zA ?_|refine zB rfl ?_|refine zC ?_|refine zD ?_|refine zE rfl ?_|refine zF ?_|refine zG ?_|refine zH ?_|refine zI ?_|refine zJ ?_|refine zK ?_|refine zL rfl ?_|refine zN rfl ?_)
  refine wp_callV H (any_ok (e := e) (l := l) (by repeat (first | exact List.Mem.head _ | apply List.Mem.tail)) H) fun S4 H => ?_
  refine wp_gchk_t ?_
  refine wp_ckn (n := 29) (cs := e.cs v) H (by repeat (first | exact List.Mem.head _ | apply List.Mem.tail)) rfl rfl (beq H (by repeat (first | exact List.Mem.head _ | apply List.Mem.tail))) ?_
  repeat (first|refine zA ?_|refine zB rfl ?_|refine zC ?_|refine zD ?_|refine zE rfl ?_|refine zF ?_|refine zG ?_|refine zH ?_|refine zI ?_|refine zJ ?_|refine zK ?_|refine zL rfl ?_|refine zN rfl ?_)
  refine wp_callV H (rany_ok (e := e) (l := l) (by repeat (first | exact List.Mem.head _ | apply List.Mem.tail)) H) fun S4 H => ?_
  repeat (first|refine zA ?_|refine zB rfl ?_|refine zC ?_|refine zD ?_|refine zE rfl ?_|refine zF ?_|refine zG ?_|refine zH ?_|refine zI ?_|refine zJ ?_|refine zK ?_|refine zL rfl ?_|refine zN rfl ?_)
  refine wp_eql_t rfl ?_
  repeat (first|refine zA ?_|refine zB rfl ?_|refine zC ?_|refine zD ?_|refine zE rfl ?_|refine zF ?_|refine zG ?_|refine zH ?_|refine zI ?_|refine zJ ?_|refine zK ?_|refine zL rfl ?_|refine zN rfl ?_)
  refine wp_call (wpC_kn (v := B true) rfl ?_)
  repeat (first|refine zA ?_|refine zB rfl ?_|refine zC ?_|refine zD ?_|refine zE rfl ?_|refine zF ?_|refine zG ?_|refine zH ?_|refine zI ?_|refine zJ ?_|refine zK ?_|refine zL rfl ?_|refine zN rfl ?_)
  exact wp_ret ⟨rfl, rfl⟩
end
end Go.Abs
namespace Go.Abs
open Go.Proofs
set_option maxRecDepth 100000
set_option linter.unusedVariables false
open Tsk (Tk tks tchk)
/-! ### setups -/
structure Su where
  cores : Int
  jobs : Int
  nodes : Int
  height : Int
  room : Int
  limit : Int
def Su.cs (s : Su) (v : AV) : List AV := [I s.cores, I s.jobs, I s.nodes, I s.height, I s.room, I s.limit, v]
def Su.fine (s : Su) : Prop := 1 ≤ s.cores ∧ s.cores ≤ 64 ∧ 1 ≤ s.jobs ∧ s.jobs ≤ 64 ∧ s.jobs + 1 ≤ s.nodes ∧ s.nodes ≤ 128 ∧ 1 ≤ s.height ∧ s.height ≤ 4 ∧ 1 ≤ s.room ∧ s.room ≤ 16 ∧ 1 ≤ s.limit ∧ s.limit ≤ 4294967295
instance (s : Su) : Decidable s.fine := inferInstanceAs (Decidable (_ ∧ _))
def Su.chk (s : Su) (l : List Tk) : Int := if s.fine then (if tchk l ≠ 0 then tchk l else if l.length = 0 then 2 else 0) else 3
def Su.bd (s : Su) : List (Int × Int × Int) := [(s.cores, 1, 64), (s.jobs, 1, 64), (s.nodes, min s.jobs 64 + 1, 128), (s.height, 1, 4), (s.room, 1, 16), (s.limit, 1, 4294967295)]
theorem Su.bd_all (s : Su) : (∀ b ∈ s.bd, b.2.1 ≤ b.1 ∧ b.1 ≤ b.2.2) ↔ s.fine := by
  simp only [Su.bd, List.mem_cons, List.not_mem_nil, or_false, forall_eq_or_imp, forall_eq]
  unfold Su.fine
  omega
def bstr : List (List Nat) := [[99, 111, 114, 101, 115], [106, 111, 98, 115], [110, 111, 100, 101, 115], [104, 101, 105, 103, 104, 116], [114, 111, 111, 109], [108, 105, 109, 105, 116]]
theorem e_min2 (a b : Int) : minmax1 false (I a) (I b) = some (I (min a b)) := by
  show some (AV.sc (.int .i64 (if ltF b a then b else a))) = _
  rw [ltF_eq]
  by_cases h : b < a
  · rw [decide_eq_true h, Int.min_eq_right (by omega)]; rfl
  · rw [decide_eq_false h, Int.min_eq_left (by omega)]; rfl
theorem e_max2 (a b : Int) : minmax1 true (I a) (I b) = some (I (max a b)) := by
  show some (AV.sc (.int .i64 (if ltF a b then b else a))) = _
  rw [ltF_eq]
  by_cases h : a < b
  · rw [decide_eq_true h, Int.max_eq_right (by omega)]; rfl
  · rw [decide_eq_false h, Int.max_eq_left (by omega)]; rfl
section
variable {M : Mach} {B0 S : AH} {W : List Nat} {own : List Own} {ro : List Fct} {Q : Post} {k : AV → AC} {kc : AC}
theorem wp_min2 {a b : Int} (h : wp M (k (I (min a b))) S Q) : wp M (.op (.minmax false [I a, I b]) k) S Q := wp_op (v := I (min a b)) (by
  show pur (minmax1 false (I a) (I b) >>= fun x => some x) S = _
  rw [e_min2]; rfl) h
theorem wp_max2 {a b : Int} (h : wp M (k (I (max a b))) S Q) : wp M (.op (.minmax true [I a, I b]) k) S Q := wp_op (v := I (max a b)) (by
  show pur (minmax1 true (I a) (I b) >>= fun x => some x) S = _
  rw [e_max2]; rfl) h
/-- one's own first row, written -/
theorem wp_st (H : Cx B0 W S own ro) (i : Nat) {id off n : Nat} {c : List AV} {v : AV} (hi : own[i]? = some (.obj id (.row c))) (ho : odd v = false) (hn : v.cells.length = n) (hl : Nat.ble (off + n) c.length = true)
    (h : ∀ S1, Cx B0 W S1 (own.set i (.obj id (.row (setRange c off v.cells)))) ro → wp M (k uv) S1 Q) : wp M (.op (.store n (.ptr id off) v) k) S Q :=
  wp_store H i hi ho hn (Nat.le_of_ble_eq_true hl) h
theorem wp_cko (H : Cx B0 W S own ro) (i : Nat) {id o : Nat} {c : List AV} {v : AV} (hi : own[i]? = some (.obj id (.row c))) (hj : c[o]? = some v) (hb : AV.beq v v = true) (h : wp M kc S Q) : wp M (.chk (.load 1 false (.ptr id o)) v kc) S Q := by
  refine wp_chk (v' := v) ?_ hb h
  show (match S.cells? id with | some c => mkPart false c o 1 | none => none) = _
  rw [row_cells (H.oh _ (List.mem_of_getElem? hi))]
  exact mkPart_one hj
theorem wp_bslice0 (H : Cx B0 W S own ro) {es : Nat} {z : List AV} (hz : z.length = es) (h : ∀ v S1, Cx B0 W S1 (.sl v es [] :: own) ro → wp M (k v) S1 Q) : wp M (.op (.bslice es 0 z []) k) S Q := by
  refine wp_op (v := .sl S.next 0 0 0) (S1 := S.new (.row [])) ?_ (h _ _ (H.addOwn (Grows.new S _) (x := .sl (.sl S.next 0 0 0) es []) ?_ ?_))
  · show nBslice es 0 z [] S = _
    unfold nBslice
    have e : (Nat.beq (lenL ([] : List AV)) (Nat.mul 0 es) && Nat.beq (lenL z) es) = true := by
      rw [lenL_eq, lenL_eq, hz, Nat.beq_refl, show Nat.mul 0 es = 0 from Nat.zero_mul es]; rfl
    show (match Nat.beq (lenL ([] : List AV)) (Nat.mul 0 es) && Nat.beq (lenL z) es with | true => lay S (.row []) fun id => .sl id 0 0 0 | false => none) = _
    rw [e]; rfl
  · exact .inr ⟨S.next, 0, [], .inl ⟨0, by simp, by simp, rfl⟩, get_new_same _ _, by simp, by simp⟩
  · intro id hid
    simp only [Own.ids, vids, List.mem_singleton] at hid
    subst hid
    exact ⟨Nat.le_refl _, by simp [AH.new]⟩
end
theorem Cx.addNilS {B0 S : AH} {W : List Nat} {own : List Own} {ro : List Fct} (H : Cx B0 W S own ro) (es : Nat) : Cx B0 W S (.sl Ns es [] :: own) ro := H.addOwn (Grows.refl S) (.inl ⟨rfl, rfl⟩) (fun id hid => by simp [Own.ids, vids] at hid)
theorem bounds6_ok {S : AH} {s : Su} {v : AV} {l : List Tk} (hj : -9223372036854775808 ≤ s.jobs) (hv : RoSl S v 4 (tks l)) : wpC EM (.fn (.func 53) [] []) [.agg (s.cs v)] S fun r S' => (∃ cs : List AV, r = .agg cs ∧ ∀ i, i < 6 → ∃ x b, (cs.drop (i * 4)).take 4 = [x, I b.1, I b.2.1, I b.2.2] ∧ odd x = false ∧ x.cells = [x] ∧ s.bd[i]? = some b) ∧ Grows S S' := by
  refine wpC_fn (b := Tryz.a53) rfl rfl ?_
  have H := Cx.ro1 hv
  unfold Tryz.a53 Tryz.a53x3 Tryz.a53x2 Tryz.a53x1 Tryz.a53x0
  refine wp_fin ?_
  refine wp_box H rfl fun p S1 H => ?_
  refine wp_alloc H fun q S2 H => ?_
  repeat' (first | (first|refine zA ?_|refine zB rfl ?_|refine zC ?_|refine zD ?_|refine zE rfl ?_|refine zF ?_|refine zG ?_|refine zH ?_|refine zI ?_|refine zJ ?_|refine zK ?_|refine zL rfl ?_|refine zN rfl ?_) | refine wp_ld (by assumption) (by repeat (first | exact List.Mem.head _ | apply List.Mem.tail)) rfl ?_ | refine wp_op (o := .build _ _) rfl ?_ | refine wp_min2 ?_ | refine wp_add64 (by omega) (by omega) ?_)
  refine wp_st H 0 rfl rfl rfl rfl fun S3 H => ?_
  refine wp_ret ⟨.inr rfl, ?_⟩
  refine wp_loadoa (n := 24) H 0 rfl (Nat.le_of_ble_eq_true rfl) ?_
  refine wp_ret ⟨rfl, ⟨_, rfl, ?_⟩, H.grows⟩
  intro i hi
  match i, hi with
  | 0, _ => exact ⟨_, _, rfl, rfl, rfl, rfl⟩
  | 1, _ => exact ⟨_, _, rfl, rfl, rfl, rfl⟩
  | 2, _ => exact ⟨_, _, rfl, rfl, rfl, rfl⟩
  | 3, _ => exact ⟨_, _, rfl, rfl, rfl, rfl⟩
  | 4, _ => exact ⟨_, _, rfl, rfl, rfl, rfl⟩
  | 5, _ => exact ⟨_, _, rfl, rfl, rfl, rfl⟩
  | j + 6, h => exact absurd h (by omega)
section
variable {B0 S : AH} {W : List Nat} {own : List Own} {ro : List Fct} {Q : Post} {k : AV → AC}
theorem wp_aidxA {len es i : Nat} {cs l : List AV} (hi : i < len) (hl : i * es + es ≤ cs.length) (he : (cs.drop (i * es)).take es = l) (h : wp EM (k (.agg l)) S Q) : wp EM (.op (.aidx len es true (.agg cs) (I (i : Int))) k) S Q := by
  refine wp_op (v := .agg l) ?_ h
  have h3 : idx? (I (i : Int)) len = some i := by
    show below i len = some i
    unfold below; rw [ble_t (by omega)]
  show pur (pAidx len es true (.agg cs) (I (i : Int))) S = _
  have : pAidx len es true (.agg cs) (I (i : Int)) = some (.agg l) := by
    show (match idx? (I (i : Int)) len with | some i => mkPart true cs (Nat.mul i es) es | none => none) = _
    rw [h3]
    simp only
    rw [mkPart_agg (by show Nat.mul i es + es ≤ _; exact hl)]
    show some (AV.agg ((cs.drop (i * es)).take es)) = _
    rw [he]
  rw [this]; rfl
theorem checkE_ok {s : Su} {v : AV} {l : List Tk} (hj : -9223372036854775808 ≤ s.jobs) (hv : Fct.sl v 4 (tks l) ∈ ro) (H : Cx B0 W S own ro) : wpC EM (.fn (.func 28) [] []) [.agg (s.cs v)] S fun r S' => r = I (s.chk l) ∧ Grows S S' := by
  refine wpC_fn (b := Tryz.a28) rfl rfl ?_
  have hv0 : RoSl S v 4 (tks l) := H.roSl hv
  clear H
  have H := Cx.ro1 hv0
  unfold Tryz.a28 Tryz.a28x5 Tryz.a28x4 Tryz.a28x3 Tryz.a28x2 Tryz.a28x1 Tryz.a28x0
  refine wp_box H rfl fun p S1 H => ?_
  refine wp_ldn H (by repeat (first | exact List.Mem.head _ | apply List.Mem.tail)) rfl ?_
  refine wp_callG H (bounds6_ok (s := s) hj (H.roSl (show Fct.sl v 4 (tks l) ∈ _ by repeat (first | exact List.Mem.head _ | apply List.Mem.tail)))) fun r S2 ⟨cs, hr, hcs⟩ H => ?_
  subst hr
  refine wp_bind (wp_loop (wpL_inv (fun m vs S1 => ∃ (i : Nat), vs = [I (i : Int), I 0] ∧ i ≤ 6 ∧ m = 6 - i ∧ (∀ b ∈ s.bd.take i, b.2.1 ≤ b.1 ∧ b.1 ≤ b.2.2) ∧ Cx S [] S1 [] [.pt p 0 (s.cs v), .sl v 4 (tks l)]) ?_ 6 ⟨0, rfl, by omega, by omega, by simp, H⟩))
  clear H
  rintro m vs S5 ⟨i, rfl, hi, rfl, hall, H⟩
  refine wp_lss (fun hlt => ?_) (fun hge => ?_)
  · have hlt : i < 6 := by omega
    obtain ⟨x, b, h1, hx1, hx2, h2⟩ := hcs i hlt
    have hcl : i * 4 + 4 ≤ cs.length := by
      have := congrArg List.length h1
      rw [List.length_take, List.length_drop] at this
      simp at this; omega
    repeat (first|refine zA ?_|refine zB rfl ?_|refine zC ?_|refine zD ?_|refine zE rfl ?_|refine zF ?_|refine zG ?_|refine zH ?_|refine zI ?_|refine zJ ?_|refine zK ?_|refine zL rfl ?_|refine zN rfl ?_)
    refine wp_bind ?_
    refine wp_aidxA hlt hcl h1 ?_
    refine wp_tmpN H rfl rfl rfl fun q S6 H => ?_
    have H : Cx S [] S6 [] [.pt q 0 [x, I b.1, I b.2.1, I b.2.2], .pt p 0 (s.cs v), .sl v 4 (tks l)] := H
    have hbl : s.bd.length = 6 := rfl
    have hb : s.bd[i]'(by rw [hbl]; exact hlt) = b := by
      have := (List.getElem?_eq_some_iff.1 h2).2; exact this
    have out : ¬ (b.2.1 ≤ b.1 ∧ b.1 ≤ b.2.2) → I 3 = I (s.chk l) := fun hn => by
      unfold Su.chk
      rw [if_neg fun hf => hn ((s.bd_all).2 hf b (List.mem_of_getElem? h2))]
    repeat (first|refine zA ?_|refine zB rfl ?_|refine zC ?_|refine zD ?_|refine zE rfl ?_|refine zF ?_|refine zG ?_|refine zH ?_|refine zI ?_|refine zJ ?_|refine zK ?_|refine zL rfl ?_|refine zN rfl ?_)
    refine wp_ld H (by repeat (first | exact List.Mem.head _ | apply List.Mem.tail)) rfl ?_
    repeat (first|refine zA ?_|refine zB rfl ?_|refine zC ?_|refine zD ?_|refine zE rfl ?_|refine zF ?_|refine zG ?_|refine zH ?_|refine zI ?_|refine zJ ?_|refine zK ?_|refine zL rfl ?_|refine zN rfl ?_)
    refine wp_ld H (by repeat (first | exact List.Mem.head _ | apply List.Mem.tail)) rfl ?_
    refine wp_lss (fun h0 => ?_) (fun h0 => ?_)
    · repeat (first|refine zA ?_|refine zB rfl ?_|refine zC ?_|refine zD ?_|refine zE rfl ?_|refine zF ?_|refine zG ?_|refine zH ?_|refine zI ?_|refine zJ ?_|refine zK ?_|refine zL rfl ?_|refine zN rfl ?_)
      refine wp_ret (.inr ⟨by simp, rfl, out (by omega), H.grows⟩)
    repeat (first|refine zA ?_|refine zB rfl ?_|refine zC ?_|refine zD ?_|refine zE rfl ?_|refine zF ?_|refine zG ?_|refine zH ?_|refine zI ?_|refine zJ ?_|refine zK ?_|refine zL rfl ?_|refine zN rfl ?_)
    refine wp_ld H (by repeat (first | exact List.Mem.head _ | apply List.Mem.tail)) rfl ?_
    repeat (first|refine zA ?_|refine zB rfl ?_|refine zC ?_|refine zD ?_|refine zE rfl ?_|refine zF ?_|refine zG ?_|refine zH ?_|refine zI ?_|refine zJ ?_|refine zK ?_|refine zL rfl ?_|refine zN rfl ?_)
    refine wp_ld H (by repeat (first | exact List.Mem.head _ | apply List.Mem.tail)) rfl ?_
    repeat (first|refine zA ?_|refine zB rfl ?_|refine zC ?_|refine zD ?_|refine zE rfl ?_|refine zF ?_|refine zG ?_|refine zH ?_|refine zI ?_|refine zJ ?_|refine zK ?_|refine zL rfl ?_|refine zN rfl ?_)
    refine wp_gtr (fun h3 => ?_) (fun h3 => ?_)
    · repeat (first|refine zA ?_|refine zB rfl ?_|refine zC ?_|refine zD ?_|refine zE rfl ?_|refine zF ?_|refine zG ?_|refine zH ?_|refine zI ?_|refine zJ ?_|refine zK ?_|refine zL rfl ?_|refine zN rfl ?_)
      refine wp_ret (.inr ⟨by simp, rfl, out (by omega), H.grows⟩)
    repeat (first|refine zA ?_|refine zB rfl ?_|refine zC ?_|refine zD ?_|refine zE rfl ?_|refine zF ?_|refine zG ?_|refine zH ?_|refine zI ?_|refine zJ ?_|refine zK ?_|refine zL rfl ?_|refine zN rfl ?_)
    refine wp_ret ?_
    show wp EM _ _ _
    refine wp_add64 (by omega) (by omega) (wp_ret (.inl ⟨rfl, 6 - (i + 1), by omega, i + 1, rfl, by omega, rfl, ?_, H.tl⟩))
    rw [List.take_succ_eq_append_getElem (by rw [hbl]; exact hlt)]
    intro a ha
    rcases List.mem_append.1 ha with ha | ha
    · exact hall a ha
    · rw [List.mem_singleton.1 ha, hb]; exact ⟨h0, h3⟩
  · have : i = 6 := by omega
    subst this
    repeat (first|refine zA ?_|refine zB rfl ?_|refine zC ?_|refine zD ?_|refine zE rfl ?_|refine zF ?_|refine zG ?_|refine zH ?_|refine zI ?_|refine zJ ?_|refine zK ?_|refine zL rfl ?_|refine zN rfl ?_)
    refine wp_ret (.inr ⟨by simp, ?_⟩)
    show wp EM _ _ _
    rw [List.take_of_length_le (by show s.bd.length ≤ 6; exact Nat.le_refl 6)] at hall
    have hf := (s.bd_all).1 hall
    repeat (first|refine zA ?_|refine zB rfl ?_|refine zC ?_|refine zD ?_|refine zE rfl ?_|refine zF ?_|refine zG ?_|refine zH ?_|refine zI ?_|refine zJ ?_|refine zK ?_|refine zL rfl ?_|refine zN rfl ?_)
    refine wp_ld H (by repeat (first | exact List.Mem.head _ | apply List.Mem.tail)) rfl ?_
    refine wp_callV H (Tsk.check_ok (l := l) (H.roSl (by repeat (first | exact List.Mem.head _ | apply List.Mem.tail)))) fun S6 H => ?_
    unfold Su.chk
    rw [if_pos hf]
    refine wp_neq (fun hne => ?_) (fun hz => ?_)
    · repeat (first|refine zA ?_|refine zB rfl ?_|refine zC ?_|refine zD ?_|refine zE rfl ?_|refine zF ?_|refine zG ?_|refine zH ?_|refine zI ?_|refine zJ ?_|refine zK ?_|refine zL rfl ?_|refine zN rfl ?_)
      rw [if_pos hne]
      exact wp_ret ⟨rfl, rfl, H.grows⟩
    repeat (first|refine zA ?_|refine zB rfl ?_|refine zC ?_|refine zD ?_|refine zE rfl ?_|refine zF ?_|refine zG ?_|refine zH ?_|refine zI ?_|refine zJ ?_|refine zK ?_|refine zL rfl ?_|refine zN rfl ?_)
    rw [if_neg (by omega)]
    refine wp_ld H (by repeat (first | exact List.Mem.head _ | apply List.Mem.tail)) rfl ?_
    refine wp_len H (by repeat (first | exact List.Mem.head _ | apply List.Mem.tail)) ?_
    rw [Tsk.tks_len]
    refine wp_eql (fun h0 => ?_) (fun hpos => ?_)
    · repeat (first|refine zA ?_|refine zB rfl ?_|refine zC ?_|refine zD ?_|refine zE rfl ?_|refine zF ?_|refine zG ?_|refine zH ?_|refine zI ?_|refine zJ ?_|refine zK ?_|refine zL rfl ?_|refine zN rfl ?_)
      rw [if_pos (by omega)]
      exact wp_ret ⟨rfl, rfl, H.grows⟩
    · repeat (first|refine zA ?_|refine zB rfl ?_|refine zC ?_|refine zD ?_|refine zE rfl ?_|refine zF ?_|refine zG ?_|refine zH ?_|refine zI ?_|refine zJ ?_|refine zK ?_|refine zL rfl ?_|refine zN rfl ?_)
      rw [if_neg (by omega)]
      exact wp_ret ⟨rfl, rfl, H.grows⟩
set_option maxHeartbeats 4000000 in
theorem rcheckE_ok {s : Su} {v : AV} {l : List Tk} (hv : Fct.sl v 4 (tks l) ∈ ro) (H : Cx B0 W S own ro) : wpC EM (.fn (.func 29) [] []) [.agg (s.cs v)] S fun r S' => r = I (s.chk l) ∧ Grows S S' := by
  refine wpC_fn (b := Tryz.a29) rfl rfl ?_
  have hv0 : RoSl S v 4 (tks l) := H.roSl hv
  clear H
  have H := Cx.ro1 hv0
  unfold Tryz.a29 Tryz.a29x9 Tryz.a29x8 Tryz.a29x7 Tryz.a29x6 Tryz.a29x5 Tryz.a29x4 Tryz.a29x3 Tryz.a29x2 Tryz.a29x1 Tryz.a29x0
  refine wp_box H rfl fun p S1 H => ?_
  have bad : ∀ (S1 : AH), ¬ s.fine → Grows S S1 → (Tag.ret = Tag.ret ∧ oneOf [I 3] = I (s.chk l) ∧ Grows S S1) := fun S1 hn hg => ⟨rfl, by unfold Su.chk; rw [if_neg hn]; rfl, hg⟩
  repeat' (first | exact wp_ret (bad _ (by unfold Su.fine; omega) (Cx.grows (by assumption))) | (first|refine zA ?_|refine zB rfl ?_|refine zC ?_|refine zD ?_|refine zE rfl ?_|refine zF ?_|refine zG ?_|refine zH ?_|refine zI ?_|refine zJ ?_|refine zK ?_|refine zL rfl ?_|refine zN rfl ?_) | refine wp_callV (by assumption) (Tsk.refCheck_ok (l := l) (Cx.roSl (by assumption) (by repeat (first | exact List.Mem.head _ | apply List.Mem.tail)))) fun S6 H => ?_ | refine wp_len (by assumption) (show Fct.sl v 4 (tks l) ∈ _ by repeat (first | exact List.Mem.head _ | apply List.Mem.tail)) ?_ | refine wp_ld (by assumption) (by repeat (first | exact List.Mem.head _ | apply List.Mem.tail)) rfl ?_ | refine wp_add64 (by omega) (by omega) ?_ | refine wp_lss (fun _ => ?_) (fun _ => ?_) | refine wp_gtr (fun _ => ?_) (fun _ => ?_) | refine wp_neq (fun hne => ?_) (fun hz => ?_) | (rw [Tsk.tks_len]; refine wp_eql (fun h0 => ?_) (fun hpos => ?_)))
  all_goals
    have hf : s.fine := by unfold Su.fine; omega
    unfold Su.chk
    rw [if_pos hf]
    first
      | (rw [if_pos (by assumption)]; exact wp_ret ⟨rfl, rfl, Cx.grows (by assumption)⟩)
      | (rw [if_neg (by omega), if_pos (by omega)]; exact wp_ret ⟨rfl, rfl, Cx.grows (by assumption)⟩)
      | (rw [if_neg (by omega), if_neg (by omega)]; exact wp_ret ⟨rfl, rfl, Cx.grows (by assumption)⟩)
theorem tks_all (l : List Tk) : ∀ x ∈ tks l, x.length = 4 := by
  intro x hx
  obtain ⟨y, _, rfl⟩ := List.mem_map.1 hx
  rfl
/-- other tasks like them -/
theorem cloneT_ok {v : AV} {l : List Tk} (hv : RoSl S v 4 (tks l)) (hl : l.length ≤ 100000) : wpC EM (.fn (.func 39) [] []) [v] S fun r S' => Cx S [] S' [.sl r 4 (tks l)] [] := by
  refine wpC_fn (b := Tryz.a39) rfl rfl ?_
  have H := Cx.ro1 hv
  unfold Tryz.a39
  have some' : v ≠ Ns → evalOp EM.P (.eq 40 false v Ns) S = some (B false, S) := fun hne => by
    rcases hv.1 with ⟨rfl, _⟩ | ⟨id, off, c, (⟨_, _, _, rfl⟩ | ⟨_, _, _, rfl⟩), _⟩
    · exact absurd rfl hne
    · kernel_rfl
    · kernel_rfl
  by_cases hn : v = Ns
  · subst hn
    have h0 : tks l = [] := by
      rcases hv.1 with ⟨_, h⟩ | ⟨id, off, c, (⟨_, _, _, h⟩ | ⟨_, _, _, h⟩), _⟩
      · exact h
      · cases h
      · cases h
    refine wp_op (v := B true) (S1 := S) (by kernel_rfl) ?_
    repeat (first|refine zA ?_|refine zB rfl ?_|refine zC ?_|refine zD ?_|refine zE rfl ?_|refine zF ?_|refine zG ?_|refine zH ?_|refine zI ?_|refine zJ ?_|refine zK ?_|refine zL rfl ?_|refine zN rfl ?_)
    refine wp_ret ⟨rfl, ?_⟩
    rw [h0]
    rw [h0] at H
    exact (H.addNilS 4).tl
  · refine wp_op (some' hn) ?_
    repeat (first|refine zA ?_|refine zB rfl ?_|refine zC ?_|refine zD ?_|refine zE rfl ?_|refine zF ?_|refine zG ?_|refine zH ?_|refine zI ?_|refine zJ ?_|refine zK ?_|refine zL rfl ?_|refine zN rfl ?_)
    refine wp_bslice0 H rfl fun u S1 H => ?_
    refine wp_appendR (x := v) (N := tks l) H 0 rfl (by repeat (first | exact List.Mem.head _ | apply List.Mem.tail)) (tks_all l) (by rw [Tsk.tks_len]; unfold maxBytes; simp; omega) (by rw [Tsk.tks_len]; unfold maxLenN; simp; omega) fun v1 S2 H => ?_
    refine wp_ret ⟨rfl, ?_⟩
    exact H.tl
end
/-! ### where the executive of a setup lies -/
def layE (s : Su) (n : Int) : Ex :=
  let N := s.nodes
  let C := s.cores
  let P := s.nodes * (4 + s.height)
  let g := 6 + 2 * N + C + s.height + P
  let j := g + n
  let m := j + 3 * s.jobs + 1
  let r := m + s.cores * (s.room + 2)
  { t := { nd := 6 + 2 * N + C + s.height, hd := 6 + 2 * N + C, ht := s.height, ftop := 0, flinks := 1, fsize := N, gens := 1 + N, worn := 1 + 2 * N, lim := s.limit, eat := 2 + 2 * N, pins := 3 + 2 * N, cores := C, tops := 3 + 2 * N + C },
    gfirst := g, gmany := n, jst := j, jkeys := j + s.jobs, jtop := j + 2 * s.jobs, jlinks := j + 2 * s.jobs + 1, jsize := s.jobs, mfirst := m, mcores := C, mroom := s.room, rruns := r, rflags := r + C, rcores := C, own := r + 2 * C, seq := r + 3 * C }
def layN (s : Su) (n : Int) : Int := (layE s n).seq + 1
theorem lay_bd {s : Su} {l : List Tk} (h : s.chk l = 0) : s.fine ∧ tchk l = 0 ∧ 1 ≤ l.length ∧ l.length ≤ 32 ∧ (0 ≤ s.nodes * (4 + s.height) ∧ s.nodes * (4 + s.height) ≤ 128 * 8) ∧ (0 ≤ s.cores * (s.room + 2) ∧ s.cores * (s.room + 2) ≤ 64 * 18) := by
  unfold Su.chk at h
  by_cases hf : s.fine
  · rw [if_pos hf] at h
    by_cases ht : tchk l ≠ 0
    · rw [if_pos ht] at h; exact absurd h ht
    · rw [if_neg ht] at h
      have ht : tchk l = 0 := Decidable.not_not.1 ht
      have hl : l.length ≤ 32 := by
        unfold Tsk.tchk at ht
        split at ht
        · cases ht
        · omega
      have hp : 1 ≤ l.length := by
        split at h
        · cases h
        · omega
      have hf' := hf
      unfold Su.fine at hf'
      exact ⟨hf, ht, hp, hl, mul_bd (by omega) (by omega) (by omega) (by omega), mul_bd (by omega) (by omega) (by omega) (by omega)⟩
  · rw [if_neg hf] at h; cases h
theorem lay_ok {s : Su} {l : List Tk} (h : s.chk l = 0) : (layE s l.length).ok l := by
  obtain ⟨hf, ht, hp, hl, h1, h2⟩ := lay_bd h
  unfold Su.fine at hf
  unfold Ex.ok To.ok cellP layE
  dsimp only
  omega
theorem tupE {c c' : List AV} {a b : Int} (h : c = c') (h2 : a = b) : AV.tup [.agg c, I a, I 0] = .tup [.agg c', I b, I 0] := by rw [h, h2]
theorem Ex.beq_sl {S : AH} {v : AV} {es : Nat} {L : List (List AV)} (hv : slOk S v es L) : AV.beq v v = true := by
  rcases hv with ⟨rfl, _⟩ | ⟨id, off, c, (⟨cap, _, _, rfl⟩ | ⟨cap, _, _, rfl⟩), _⟩
  · rfl
  · show (Nat.beq id id && Nat.beq off off && Nat.beq L.length L.length && Nat.beq cap cap) = true
    simp only [Nat.beq_refl, Bool.and_self]
  · show (Nat.beq id id && Nat.beq off off && Nat.beq L.length L.length && Nat.beq cap cap && Nat.beq es es) = true
    simp only [Nat.beq_refl, Bool.and_self]
theorem consI {a b : Int} {l m : List AV} (h : a = b) (h2 : l = m) : I a :: l = I b :: m := by rw [h, h2]
section
variable {B0 S : AH} {W : List Nat} {own : List Own} {ro : List Fct} {Q : Post} {k : AV → AC}
/-- the next cells are taken -/
theorem wp_next {x at' res : Nat} {u : AV} {es : Nat} {L : List (List AV)} {r z : AO} {a n : Int} (H : Cx B0 W S [.obj x r, .sl u es L, .obj at' (.row [I a]), .obj res z] ro) (h1 : -9223372036854775808 ≤ a + n) (h2 : a + n ≤ 9223372036854775807) (h3 : -9223372036854775808 ≤ a) (h4 : a ≤ 9223372036854775807)
    (h : ∀ S1, Cx B0 W S1 [.obj x r, .sl u es L, .obj at' (.row [I (a + n)]), .obj res z] ro → wp EM (k (I a)) S1 Q) : wp EM (.call (.fn (.func 38) [] [.ptr at' 0]) [I n] k) S Q := by
  refine wp_call (wpC_fn (b := Tryz.a38) rfl rfl ?_)
  unfold Tryz.a38
  refine wp_loado H 2 rfl rfl ?_
  refine wp_add64 h1 h2 ?_
  refine wp_st H 2 rfl rfl rfl rfl fun S1 H => ?_
  have H : Cx B0 W S1 [.obj x r, .sl u es L, .obj at' (.row [I (a + n)]), .obj res z] ro := H
  refine wp_loado H 2 rfl rfl ?_
  refine wp_sub64 (by omega) (by omega) ?_
  refine wp_ret ⟨rfl, ?_⟩
  show wp EM (k (I (a + n - n))) S1 Q
  rw [show a + n - n = a by omega]
  exact h S1 H
theorem e_buildT {u : AV} {es : Nat} {L : List (List AV)} (hs : slOk S u es L) : evalOp EM.P (.build [I 0, I 0, I 0, I 0, I 0, I 0, I 0, I 0, I 0, I 0, I 0, I 0, I 0, I 0, I 0, I 0, I 0, I 0, I 0, I 0, I 0, I 0, I 0, I 0, I 0, I 0, I 0, I 0, Ns] [(28, 1, u)]) S = some (.agg [I 0, I 0, I 0, I 0, I 0, I 0, I 0, I 0, I 0, I 0, I 0, I 0, I 0, I 0, I 0, I 0, I 0, I 0, I 0, I 0, I 0, I 0, I 0, I 0, I 0, I 0, I 0, I 0, u], S) := by
  rcases hs with ⟨rfl, _⟩ | ⟨id, off, c, (⟨_, _, _, rfl⟩ | ⟨_, _, _, rfl⟩), _⟩ <;> rfl
def zeroE (v : AV) : List AV := [I 0, I 0, I 0, I 0, I 0, I 0, I 0, I 0, I 0, I 0, I 0, I 0, I 0, I 0, I 0, I 0, I 0, I 0, I 0, I 0, I 0, I 0, I 0, I 0, I 0, I 0, I 0, I 0, v]
def layR (s : Su) (l : List Tk) (u r : AV) : Prop := (s.chk l ≠ 0 ∧ u = Ns ∧ r = .tup [.agg (zeroE Ns), I 0, I (s.chk l)]) ∨ (s.chk l = 0 ∧ r = .tup [.agg ((layE s l.length).cs u), I (layN s l.length), I 0])
set_option maxHeartbeats 4000000 in
theorem layout_ok {s : Su} {v : AV} {l : List Tk} (hj : -9223372036854775808 ≤ s.jobs) (hv : RoSl S v 4 (tks l)) : wpC EM (.fn (.func 16) [] []) [.agg (s.cs v)] S fun r S' => ∃ u, layR s l u r ∧ Cx S [] S' [.sl u 4 (if s.chk l = 0 then tks l else [])] [] := by
  refine wpC_fn (b := Tryz.a16) rfl rfl ?_
  have H := Cx.ro1 hv
  unfold Tryz.a16 Tryz.a16x36 Tryz.a16x35 Tryz.a16x34 Tryz.a16x33 Tryz.a16x32 Tryz.a16x31 Tryz.a16x30 Tryz.a16x29 Tryz.a16x28 Tryz.a16x27 Tryz.a16x26 Tryz.a16x25 Tryz.a16x24 Tryz.a16x23 Tryz.a16x22 Tryz.a16x21 Tryz.a16x20 Tryz.a16x19 Tryz.a16x18 Tryz.a16x17 Tryz.a16x16 Tryz.a16x15 Tryz.a16x14 Tryz.a16x13 Tryz.a16x12 Tryz.a16x11 Tryz.a16x10 Tryz.a16x9 Tryz.a16x8 Tryz.a16x7 Tryz.a16x6 Tryz.a16x5 Tryz.a16x4 Tryz.a16x3 Tryz.a16x2 Tryz.a16x1 Tryz.a16x0 layR
  refine wp_fin ?_
  refine wp_box H rfl fun p S1 H => ?_
  refine wp_alloc H fun q S2 H => ?_
  refine wp_ldn H (by repeat (first | exact List.Mem.head _ | apply List.Mem.tail)) rfl ?_
  refine wp_callV H (checkE_ok (s := s) (l := l) hj (by repeat (first | exact List.Mem.head _ | apply List.Mem.tail)) H) fun S3 H => ?_
  refine wp_neq (fun hne => ?_) (fun hz => ?_)
  · repeat (first|refine zA ?_|refine zB rfl ?_|refine zC ?_|refine zD ?_|refine zE rfl ?_|refine zF ?_|refine zG ?_|refine zH ?_|refine zI ?_|refine zJ ?_|refine zK ?_|refine zL rfl ?_|refine zN rfl ?_)
    refine wp_op (o := .build _ _) rfl ?_
    refine wp_st H 0 rfl rfl rfl rfl fun S4 H => ?_
    refine wp_ret ⟨.inr rfl, ?_⟩
    refine wp_loadoa (n := 29) H 0 rfl (Nat.le_of_ble_eq_true rfl) ?_
    refine wp_ret ⟨rfl, Ns, .inl ⟨hne, rfl, rfl⟩, ?_⟩
    rw [if_neg hne]
    exact ((H.dropAt 0).addNilS 4).dropRo (by simp)
  obtain ⟨hf, ht, hp, hl, hb1, hb2⟩ := lay_bd hz
  have hf0 := hf
  unfold Su.fine at hf
  rw [if_pos hz]
  repeat (first|refine zA ?_|refine zB rfl ?_|refine zC ?_|refine zD ?_|refine zE rfl ?_|refine zF ?_|refine zG ?_|refine zH ?_|refine zI ?_|refine zJ ?_|refine zK ?_|refine zL rfl ?_|refine zN rfl ?_)
  refine wp_alloc H fun at' S4 H => ?_
  refine wp_st H 0 rfl rfl rfl rfl fun S5 H => ?_
  have H : Cx S [] S5 [.obj at' (.row [I 0]), .obj q (.row (zeroE Ns))] [.pt p 0 (s.cs v), .sl v 4 (tks l)] := H
  repeat (first|refine zA ?_|refine zB rfl ?_|refine zC ?_|refine zD ?_|refine zE rfl ?_|refine zF ?_|refine zG ?_|refine zH ?_|refine zI ?_|refine zJ ?_|refine zK ?_|refine zL rfl ?_|refine zN rfl ?_)
  refine wp_ld H (by repeat (first | exact List.Mem.head _ | apply List.Mem.tail)) rfl ?_
  refine wp_callN H (cloneT_ok (l := l) (H.roSl (by repeat (first | exact List.Mem.head _ | apply List.Mem.tail))) (by omega)) fun u S6 H => ?_
  refine wp_op (e_buildT (ownSl_ok (H.oh _ (List.Mem.head _)))) ?_
  refine wp_alloc H fun x S7 H => ?_
  refine wp_st H 0 rfl rfl rfl rfl fun S8 H => ?_
  have H : Cx S [] S8 [.obj x (.row (zeroE u)), .sl u 4 (tks l), .obj at' (.row [I 0]), .obj q (.row (zeroE Ns))] [.pt p 0 (s.cs v), .sl v 4 (tks l)] := H
  repeat' (first | (first|refine zA ?_|refine zB rfl ?_|refine zC ?_|refine zD ?_|refine zE rfl ?_|refine zF ?_|refine zG ?_|refine zH ?_|refine zI ?_|refine zJ ?_|refine zK ?_|refine zL rfl ?_|refine zN rfl ?_) | refine wp_ld (by assumption) (by repeat (first | exact List.Mem.head _ | apply List.Mem.tail)) rfl ?_ | refine wp_len (by assumption) (show Fct.sl v 4 (tks l) ∈ _ by repeat (first | exact List.Mem.head _ | apply List.Mem.tail)) ?_ | rw [Tsk.tks_len] | refine wp_next (by assumption) (by omega) (by omega) (by omega) (by omega) fun _ _ => ?_ | refine wp_ck (by assumption) (by repeat (first | exact List.Mem.head _ | apply List.Mem.tail)) rfl beq_num ?_ | refine wp_ck (by assumption) (by repeat (first | exact List.Mem.head _ | apply List.Mem.tail)) rfl (Ex.beq_sl (Cx.rh (by assumption) _ (show Fct.sl v 4 (tks l) ∈ _ by repeat (first | exact List.Mem.head _ | apply List.Mem.tail)))) ?_ | refine wp_st (by assumption) 0 rfl rfl rfl rfl fun _ _ => ?_ | refine wp_add64 (by omega) (by omega) ?_ | refine wp_mul64 (by omega) (by omega) ?_)
  refine wp_loadoa (n := 29) (by assumption) 0 rfl (Nat.le_of_ble_eq_true rfl) ?_
  refine wp_loado (by assumption) 2 rfl rfl ?_
  refine wp_st (by assumption) 3 rfl rfl rfl rfl fun S9 H9 => ?_
  refine wp_cko H9 2 rfl rfl beq_num ?_
  refine wp_ret ⟨.inr rfl, ?_⟩
  refine wp_loadoa (n := 29) H9 3 rfl (Nat.le_of_ble_eq_true rfl) ?_
  refine wp_ret ⟨rfl, u, .inr ⟨hz, tupE ?_ ?_⟩, (((H9.dropAt 0).dropAt 1).dropAt 1).dropRo (by simp)⟩
  · unfold Ex.cs
    repeat' (refine consI (by unfold layE; dsimp only <;> omega) ?_)
    rfl
  · unfold layN layE; dsimp only <;> omega
set_option maxHeartbeats 4000000 in
theorem rlayout_ok {s : Su} {v : AV} {l : List Tk} (hv : RoSl S v 4 (tks l)) : wpC EM (.fn (.func 27) [] []) [.agg (s.cs v)] S fun r S' => ∃ u, layR s l u r ∧ Cx S [] S' [.sl u 4 (if s.chk l = 0 then tks l else [])] [] := by
  refine wpC_fn (b := Tryz.a27) rfl rfl ?_
  have H := Cx.ro1 hv
  unfold Tryz.a27 Tryz.a27x23 Tryz.a27x22 Tryz.a27x21 Tryz.a27x20 Tryz.a27x19 Tryz.a27x18 Tryz.a27x17 Tryz.a27x16 Tryz.a27x15 Tryz.a27x14 Tryz.a27x13 Tryz.a27x12 Tryz.a27x11 Tryz.a27x10 Tryz.a27x9 Tryz.a27x8 Tryz.a27x7 Tryz.a27x6 Tryz.a27x5 Tryz.a27x4 Tryz.a27x3 Tryz.a27x2 Tryz.a27x1 Tryz.a27x0 layR
  refine wp_fin ?_
  refine wp_box H rfl fun p S1 H => ?_
  refine wp_alloc H fun q S2 H => ?_
  refine wp_ldn H (by repeat (first | exact List.Mem.head _ | apply List.Mem.tail)) rfl ?_
  refine wp_callV H (rcheckE_ok (s := s) (l := l) (by repeat (first | exact List.Mem.head _ | apply List.Mem.tail)) H) fun S3 H => ?_
  refine wp_neq (fun hne => ?_) (fun hz => ?_)
  · repeat (first|refine zA ?_|refine zB rfl ?_|refine zC ?_|refine zD ?_|refine zE rfl ?_|refine zF ?_|refine zG ?_|refine zH ?_|refine zI ?_|refine zJ ?_|refine zK ?_|refine zL rfl ?_|refine zN rfl ?_)
    refine wp_op (o := .build _ _) rfl ?_
    refine wp_st H 0 rfl rfl rfl rfl fun S4 H => ?_
    refine wp_ret ⟨.inr rfl, ?_⟩
    refine wp_loadoa (n := 29) H 0 rfl (Nat.le_of_ble_eq_true rfl) ?_
    refine wp_ret ⟨rfl, Ns, .inl ⟨hne, rfl, rfl⟩, ?_⟩
    rw [if_neg hne]
    exact ((H.dropAt 0).addNilS 4).dropRo (by simp)
  obtain ⟨hf, ht, hp, hl, hb1, hb2⟩ := lay_bd hz
  have hf0 := hf
  unfold Su.fine at hf
  rw [if_pos hz]
  repeat (first|refine zA ?_|refine zB rfl ?_|refine zC ?_|refine zD ?_|refine zE rfl ?_|refine zF ?_|refine zG ?_|refine zH ?_|refine zI ?_|refine zJ ?_|refine zK ?_|refine zL rfl ?_|refine zN rfl ?_)
  refine wp_bslice0 H rfl fun u0 S4 H => ?_
  repeat (first|refine zA ?_|refine zB rfl ?_|refine zC ?_|refine zD ?_|refine zE rfl ?_|refine zF ?_|refine zG ?_|refine zH ?_|refine zI ?_|refine zJ ?_|refine zK ?_|refine zL rfl ?_|refine zN rfl ?_)
  refine wp_ld H (by repeat (first | exact List.Mem.head _ | apply List.Mem.tail)) rfl ?_
  refine wp_appendR (x := v) (N := tks l) H 0 rfl (by repeat (first | exact List.Mem.head _ | apply List.Mem.tail)) (tks_all l) (by rw [Tsk.tks_len]; unfold maxBytes; simp; omega) (by rw [Tsk.tks_len]; unfold maxLenN; simp; omega) fun u S5 H => ?_
  refine wp_op (e_buildT (ownSl_ok (H.oh _ (List.Mem.head _)))) ?_
  refine wp_alloc H fun x S7 H => ?_
  refine wp_st H 0 rfl rfl rfl rfl fun S8 H => ?_
  have H : Cx S [] S8 [.obj x (.row (zeroE u)), .sl u 4 (tks l), .obj q (.row (zeroE Ns))] [.pt p 0 (s.cs v), .sl v 4 (tks l)] := H
  repeat' (first | (first|refine zA ?_|refine zB rfl ?_|refine zC ?_|refine zD ?_|refine zE rfl ?_|refine zF ?_|refine zG ?_|refine zH ?_|refine zI ?_|refine zJ ?_|refine zK ?_|refine zL rfl ?_|refine zN rfl ?_) | refine wp_ld (by assumption) (by repeat (first | exact List.Mem.head _ | apply List.Mem.tail)) rfl ?_ | refine wp_loado (by assumption) 0 rfl rfl ?_ | refine wp_len (by assumption) (show Fct.sl v 4 (tks l) ∈ _ by repeat (first | exact List.Mem.head _ | apply List.Mem.tail)) ?_ | rw [Tsk.tks_len] | refine wp_op (o := .build _ _) rfl ?_ | refine wp_ck (by assumption) (by repeat (first | exact List.Mem.head _ | apply List.Mem.tail)) rfl beq_num ?_ | refine wp_cko (by assumption) 0 rfl rfl beq_num ?_ | refine wp_ck (by assumption) (by repeat (first | exact List.Mem.head _ | apply List.Mem.tail)) rfl (Ex.beq_sl (Cx.rh (by assumption) _ (show Fct.sl v 4 (tks l) ∈ _ by repeat (first | exact List.Mem.head _ | apply List.Mem.tail)))) ?_ | refine wp_st (by assumption) 0 rfl rfl rfl rfl fun _ _ => ?_ | refine wp_add64 (by omega) (by omega) ?_ | refine wp_mul64 (by omega) (by omega) ?_)
  refine wp_loadoa (n := 29) (by assumption) 0 rfl (Nat.le_of_ble_eq_true rfl) ?_
  repeat (first|refine zA ?_|refine zB rfl ?_|refine zC ?_|refine zD ?_|refine zE rfl ?_|refine zF ?_|refine zG ?_|refine zH ?_|refine zI ?_|refine zJ ?_|refine zK ?_|refine zL rfl ?_|refine zN rfl ?_)
  refine wp_loado (by assumption) 0 rfl rfl ?_
  refine wp_add64 (by omega) (by omega) ?_
  refine wp_st (by assumption) 2 rfl rfl rfl rfl fun S9 H9 => ?_
  refine wp_cko H9 0 rfl rfl beq_num ?_
  refine wp_ret ⟨.inr rfl, ?_⟩
  refine wp_loadoa (n := 29) H9 2 rfl (Nat.le_of_ble_eq_true rfl) ?_
  refine wp_ret ⟨rfl, u, .inr ⟨hz, tupE ?_ ?_⟩, ((H9.dropAt 0).dropAt 1).dropRo (by simp)⟩
  · unfold Ex.cs
    repeat' (refine consI (by unfold layE; dsimp only <;> omega) ?_)
    rfl
  · unfold layN layE; dsimp only <;> omega
end
end Go.Abs
namespace Go.Abs
open Go.Proofs
set_option maxRecDepth 100000
set_option linter.unusedVariables false
open Tsk (Tk tks tchk tone)
section
variable {B0 S : AH} {W : List Nat} {own : List Own} {ro : List Fct} {Q : Post} {k : AV → AC}
theorem wp_mkslice1 {M : Mach} {z : AV} {bytes n : Nat} (H : Cx B0 W S own ro) (hb : bytes * n ≤ 140737488355328) (hn : n ≤ 9223372036854775807)
    (h : ∀ t S1, Cx B0 W S1 (.sl t 1 (List.replicate n [z]) :: own) ro → wp M (k t) S1 Q) : wp M (.op (.mkslice 1 bytes [z] (I (n : Int)) (I (n : Int))) k) S Q := by
  have hz : ∀ m : Nat, repZero [z] m = List.replicate m z := by
    intro m
    induction m with
    | zero => rfl
    | succ m ih =>
      show appL [z] (repZero [z] m) = _
      rw [ih, appL_eq]; rfl
  have hnat : nat? (n : Int) = some n := by
    unfold nat?
    rfl
  refine wp_op (v := .sl S.next 0 n n) (S1 := S.new (.row (List.replicate n z))) ?_ (h _ _ (H.addOwn (Grows.new S _) (.inr ⟨S.next, 0, List.replicate n z, .inl ⟨n, by simp, by simp, by simp⟩, get_new_same _ _, ?_, ?_⟩) ?_))
  · show nMkslice 1 bytes [z] (I (n : Int)) (I (n : Int)) S = _
    unfold nMkslice
    simp only [asInt, vInt, hnat]
    have e : (Nat.ble n n && Nat.ble (Nat.mul bytes n) 140737488355328 && Nat.ble n 9223372036854775807 && Nat.beq (lenL [z]) 1) = true := by
      have hb' : Nat.ble (Nat.mul bytes n) 140737488355328 = true := ble_t hb
      rw [ble_t (Nat.le_refl n), hb', ble_t hn]; rfl
    rw [e, hz]
    rfl
  · have : ∀ m : Nat, (List.replicate m [z]).flatten = List.replicate m z := by
      intro m
      induction m with
      | zero => rfl
      | succ m ih => rw [List.replicate_succ, List.flatten_cons, ih]; rfl
    rw [this]; simp
  · intro x hx
    rw [(List.mem_replicate.1 hx).2]; rfl
  · intro j hj
    simp only [Own.ids, vids, List.mem_singleton] at hj
    subst hj
    simp
theorem wp_Pick (H : Cx B0 W S own ro) {a n : Int} (hn : n ≤ 9223372036854775807) (h : ∀ S, Cx B0 W S own ro → wp EM (k (I (pick a n))) S Q) : wp EM (.call (.fn (.func 24) [] []) [I a, I n] k) S Q :=
  wp_call (wpC_mono (pick_ok rfl rfl hn) fun r S1 ⟨hr, hs⟩ => by subst hr; subst hs; exact h _ H)
theorem pick_bd {a n : Int} (h : 0 < n) : 0 ≤ pick a n ∧ pick a n < n := by
  unfold pick
  rw [if_neg (by omega)]
  exact ⟨Int.emod_nonneg _ (by omega), Int.emod_lt_of_pos _ h⟩
theorem ints_set (l : List Int) (i : Nat) (a : Int) : (ints l).set i [I a] = ints (l.set i a) := by unfold ints; rw [List.map_set]
theorem ints_getE {l : List Int} {i : Nat} (h : i < l.length) : (ints l)[i]? = some [I l[i]] := by simp [ints, h]
/-- a number out of one's own list -/
theorem wp_ownI {v : AV} {l : List Int} {i : Nat} (H : Cx B0 W S own ro) (n : Nat) (hm : own[n]? = some (.sl v 1 (ints l))) (hi : i < l.length) (h : wp EM (k (I l[i])) S Q) : wp EM (.op (.saddr 1 v (I (i : Int))) fun p => .op (.load 1 false p) k) S Q := by
  refine wp_saddro H n hm (ints_getE hi) fun id off hp => ?_
  have := wp_loadF (M := EM) (k := k) (S := S) (Q := Q) (j := 0) hp rfl h
  exact this
end
section
variable {M : Mach} {S : AH} {Q : Post} {k : AV → AC}
theorem wp_remE {a b : Int} (h0 : 0 ≤ a) (hb : b ≠ 0) (h : wp M (k (I (a % b))) S Q) : wp M (.op (.bin .rem (I a) (I b)) k) S Q := wp_rem hb (by rw [Int.tmod_eq_emod_of_nonneg h0]; exact h)
theorem wp_quoE {a b : Int} (h0 : 0 ≤ a) (hb : 0 < b) (hm : a ≤ 9223372036854775807) (h : wp M (k (I (a / b))) S Q) : wp M (.op (.bin .quo (I a) (I b)) k) S Q := by
  have h1 : 0 ≤ a / b := Int.ediv_nonneg h0 (by omega)
  have h2 : a / b ≤ a := Int.ediv_le_self _ h0
  exact wp_quo (c := a / b) (by omega) (by rw [Int.tdiv_eq_ediv_of_nonneg h0]; exact wrap64 (by omega) (by omega)) h
end
/-- a small setup -/
def Su.small (s : Su) : Prop := 1 ≤ s.cores ∧ s.cores ≤ 4 ∧ 1 ≤ s.jobs ∧ s.jobs ≤ 5 ∧ s.jobs + 1 ≤ s.nodes ∧ s.nodes ≤ s.jobs + 2 ∧ 1 ≤ s.height ∧ s.height ≤ 3 ∧ 1 ≤ s.room ∧ s.room ≤ 3 ∧ s.limit = 1000
def Tk.small (x : Tk) : Prop := x.kind = 2 ∧ 0 ≤ x.prio ∧ x.prio ≤ 4 ∧ 0 ≤ x.every ∧ x.every ≤ 2 ∧ x.first = 0
theorem tone_small {x : Tk} (h : Tk.small x) : tone x = 0 := by
  unfold Tk.small at h
  unfold tone
  rw [if_neg (by omega), if_neg (by omega)]
theorem tchk_small : ∀ {l : List Tk}, (∀ x ∈ l, Tk.small x) → l.length ≤ 32 → tchk l = 0 := by
  intro l h hl
  unfold tchk
  rw [if_neg (by omega)]
  clear hl
  induction l with
  | nil => rfl
  | cons x r ih =>
    unfold Tsk.tfirst
    rw [tone_small (h x (by simp)), ih fun y hy => h y (by simp [hy])]
    simp
theorem small_chk {s : Su} {l : List Tk} (hs : s.small) (hl : ∀ x ∈ l, Tk.small x) (h1 : 1 ≤ l.length) (h2 : l.length ≤ 3) : s.chk l = 0 := by
  unfold Su.small at hs
  unfold Su.chk
  rw [if_pos (by unfold Su.fine; omega), tchk_small hl (by omega), if_neg (by simp), if_neg (by omega)]
theorem small_ok {S : AH} {v : AV} {l : List Int} (hv : RoSl S v 1 (ints l)) : wpC EM (.fn (.func 15) [] []) [v] S fun r S' => ∃ (s : Su) (u : AV) (tl : List Tk), r = .agg (s.cs u) ∧ s.small ∧ (∀ x ∈ tl, Tk.small x) ∧ 1 ≤ tl.length ∧ tl.length ≤ 3 ∧ Cx S [] S' [.sl u 4 (tks tl)] [] := by
  refine wpC_fn (b := Tryz.a15) rfl rfl ?_
  have H := Cx.ro1 hv
  unfold Tryz.a15 Tryz.a15x15 Tryz.a15x14 Tryz.a15x13 Tryz.a15x12 Tryz.a15x11 Tryz.a15x10 Tryz.a15x9 Tryz.a15x8 Tryz.a15x7 Tryz.a15x6 Tryz.a15x5 Tryz.a15x4 Tryz.a15x3 Tryz.a15x2 Tryz.a15x1 Tryz.a15x0
  refine wp_fin ?_
  refine wp_alloc H fun q S1 H => ?_
  refine wp_mkslice1 (n := 10) H (by omega) (by omega) fun vn S2 H => ?_
  refine wp_bind (wp_loop (wpL_inv (fun m vs S1 => ∃ (i : Nat) (N : List Int), vs = [I (i : Int)] ∧ i ≤ 10 ∧ m = 10 - i ∧ N.length = 10 ∧ (∀ a ∈ N, 0 ≤ a ∧ a < 1000) ∧ Cx S [] S1 [.sl vn 1 (ints N), .obj q (.row [I 0, I 0, I 0, I 0, I 0, I 0, Ns])] [.sl v 1 (ints l)]) ?_ 10 ⟨0, List.replicate 10 0, rfl, by omega, by omega, by simp, by simp, H⟩))
  clear H
  rintro m vs S3 ⟨i, N, rfl, hi, rfl, hN, hall, H⟩
  have hb : ∀ (j : Nat) (hj : j < N.length), 0 ≤ N[j] ∧ N[j] < 1000 := fun j hj => hall _ (List.getElem_mem hj)
  refine wp_leno H 0 rfl ?_
  rw [ints_len, hN]
  -- behind the loop
  have fin : ∀ S3, Cx S [] S3 [.sl vn 1 (ints N), .obj q (.row [I 0, I 0, I 0, I 0, I 0, I 0, Ns])] [.sl v 1 (ints l)] → wp EM (Tryz.a15x15 (.ptr q 0) vn) S3 fun t vs S' => (t = .normal ∨ t = .ret) ∧ wp EM (.op (.load 7 true (nth vs 0)) fun v2 => .ret .ret [v2]) S' fun t vs S' => t = .ret ∧ ∃ (s : Su) (u : AV) (tl : List Tk), oneOf vs = .agg (s.cs u) ∧ s.small ∧ (∀ x ∈ tl, Tk.small x) ∧ 1 ≤ tl.length ∧ tl.length ≤ 3 ∧ Cx S [] S' [.sl u 4 (tks tl)] [] := by
    intro S3 H
    have h0 := hb 0 (by omega)
    have h1 := hb 1 (by omega)
    have h2 := hb 2 (by omega)
    have h3 := hb 3 (by omega)
    have h4 := hb 4 (by omega)
    have h5 := hb 5 (by omega)
    try unfold Tryz.a15x15
    try unfold Tryz.a15x14
    try unfold Tryz.a15x13
    try unfold Tryz.a15x12
    try unfold Tryz.a15x11
    try unfold Tryz.a15x10
    try unfold Tryz.a15x9
    try unfold Tryz.a15x8
    try unfold Tryz.a15x7
    try unfold Tryz.a15x6
    try unfold Tryz.a15x5
    try unfold Tryz.a15x4
    try unfold Tryz.a15x3
    try unfold Tryz.a15x2
    try unfold Tryz.a15x1
    try unfold Tryz.a15x0
    refine wp_ownI (i := 0) H 0 rfl (by omega) ?_
    refine wp_remE h0.1 (by omega) ?_
    refine wp_add64 (by omega) (by omega) ?_
    refine wp_ownI (i := 1) H 0 rfl (by omega) ?_
    refine wp_remE h1.1 (by omega) ?_
    refine wp_add64 (by omega) (by omega) ?_
    refine wp_ownI (i := 2) H 0 rfl (by omega) ?_
    refine wp_remE h2.1 (by omega) ?_
    refine wp_add64 (by omega) (by omega) ?_
    refine wp_ownI (i := 3) H 0 rfl (by omega) ?_
    refine wp_remE h3.1 (by omega) ?_
    refine wp_add64 (by omega) (by omega) ?_
    refine wp_op (o := .build _ _) rfl ?_
    refine wp_alloc H fun x S4 H => ?_
    refine wp_st H 0 rfl rfl rfl rfl fun S5 H => ?_
    repeat (first|refine zA ?_|refine zB rfl ?_|refine zC ?_|refine zD ?_|refine zE rfl ?_|refine zF ?_|refine zG ?_|refine zH ?_|refine zI ?_|refine zJ ?_|refine zK ?_|refine zL rfl ?_|refine zN rfl ?_)
    refine wp_loado H 0 rfl rfl ?_
    refine wp_add64 (by omega) (by omega) ?_
    refine wp_ownI (i := 4) H 1 rfl (by omega) ?_
    refine wp_remE h4.1 (by omega) ?_
    refine wp_add64 (by omega) (by omega) ?_
    repeat (first|refine zA ?_|refine zB rfl ?_|refine zC ?_|refine zD ?_|refine zE rfl ?_|refine zF ?_|refine zG ?_|refine zH ?_|refine zI ?_|refine zJ ?_|refine zK ?_|refine zL rfl ?_|refine zN rfl ?_)
    refine wp_st H 0 rfl rfl rfl rfl fun S6 H => ?_
    generalize hs : Su.mk (1 + N[0] % 4) (1 + N[1] % 5) (1 + N[1] % 5 + 1 + N[4] % 2) (1 + N[2] % 3) (1 + N[3] % 3) 1000 = s
    have hsm : s.small := by subst hs; unfold Su.small; dsimp only; omega
    have H : Cx S [] S6 [.obj x (.row (s.cs Ns)), .sl vn 1 (ints N), .obj q (.row [I 0, I 0, I 0, I 0, I 0, I 0, Ns])] [.sl v 1 (ints l)] := by
      subst hs; exact H
    have H := H.addNilS 4
    refine wp_bind (wp_loop (wpL_inv (fun m vs S1 => ∃ (i : Nat) (u : AV) (tl : List Tk), vs = [I (i : Int)] ∧ 5 ≤ i ∧ i ≤ 8 ∧ m = 8 - i ∧ tl.length = i - 5 ∧ (6 ≤ i → (i : Int) ≤ 6 + N[5] % 3) ∧ (∀ x ∈ tl, Tk.small x) ∧ Cx S [] S1 [.sl u 4 (tks tl), .obj x (.row (s.cs u)), .sl vn 1 (ints N), .obj q (.row [I 0, I 0, I 0, I 0, I 0, I 0, Ns])] [.sl v 1 (ints l)]) ?_ 3 ⟨5, Ns, [], rfl, by omega, by omega, by omega, rfl, by omega, by simp, H⟩))
    clear H
    rintro m vs S7 ⟨i, u, tl, rfl, hi5, hi8, rfl, htl, hi6, htl2, H⟩
    refine wp_ownI (i := 5) H 2 rfl (by omega) ?_
    refine wp_remE h5.1 (by omega) ?_
    refine wp_add64 (by omega) (by omega) ?_
    refine wp_lss (fun hlt => ?_) (fun hge => ?_)
    · have hp := hb (i + 1) (by omega)
      repeat (first|refine zA ?_|refine zB rfl ?_|refine zC ?_|refine zD ?_|refine zE rfl ?_|refine zF ?_|refine zG ?_|refine zH ?_|refine zI ?_|refine zJ ?_|refine zK ?_|refine zL rfl ?_|refine zN rfl ?_)
      refine wp_bind ?_
      repeat (first|refine zA ?_|refine zB rfl ?_|refine zC ?_|refine zD ?_|refine zE rfl ?_|refine zF ?_|refine zG ?_|refine zH ?_|refine zI ?_|refine zJ ?_|refine zK ?_|refine zL rfl ?_|refine zN rfl ?_)
      refine wp_loado H 1 rfl rfl ?_
      refine wp_add64 (by omega) (by omega) ?_
      have e1 : ((i : Int) + 1) = ((i + 1 : Nat) : Int) := by omega
      rw [e1]
      refine wp_ownI (i := i + 1) H 2 rfl (by omega) ?_
      refine wp_remE hp.1 (by omega) ?_
      refine wp_add64 (by omega) (by omega) ?_
      rw [e1]
      refine wp_ownI (i := i + 1) H 2 rfl (by omega) ?_
      refine wp_quoE hp.1 (by omega) (by omega) ?_
      refine wp_remE (Int.ediv_nonneg hp.1 (by omega)) (by omega) ?_
      refine wp_op (v := .agg (Tk.cs ⟨2, N[i + 1] % 5, N[i + 1] / 5 % 3, 0⟩)) rfl ?_
      refine wp_push (L := tks tl) (x := .agg (Tk.cs ⟨2, N[i + 1] % 5, N[i + 1] / 5 % 3, 0⟩)) H 0 rfl rfl rfl rfl (by rw [Tsk.tks_len]; unfold maxBytes; omega) (by rw [Tsk.tks_len]; unfold maxLenN; omega) fun u1 S8 H => ?_
      have hs1 := ownSl_ok (H.oh _ (List.Mem.head _))
      repeat (first|refine zA ?_|refine zB rfl ?_|refine zC ?_|refine zD ?_|refine zE rfl ?_|refine zF ?_|refine zG ?_|refine zH ?_|refine zI ?_|refine zJ ?_|refine zK ?_|refine zL rfl ?_|refine zN rfl ?_)
      refine wp_st H 1 rfl (slOk_one hs1).1 (by rw [(slOk_one hs1).2]; rfl) rfl fun S9 H => ?_
      rw [(slOk_one hs1).2] at H
      refine wp_ret ?_
      show wp EM _ _ _
      refine wp_add64 (by omega) (by omega) (wp_ret (.inl ⟨rfl, 8 - (i + 1), by omega, i + 1, u1, tl ++ [⟨2, N[i + 1] % 5, N[i + 1] / 5 % 3, 0⟩], rfl, by omega, by omega, rfl, by simp; omega, by omega, ?_, ?_⟩))
      · intro y hy
        rcases List.mem_append.1 hy with hy | hy
        · exact htl2 y hy
        · rw [List.mem_singleton.1 hy]
          unfold Tk.small; dsimp only; omega
      · have e2 : tks (tl ++ [⟨2, N[i + 1] % 5, N[i + 1] / 5 % 3, 0⟩]) = tks tl ++ [(AV.agg (Tk.cs ⟨2, N[i + 1] % 5, N[i + 1] / 5 % 3, 0⟩)).cells] := by unfold Tsk.tks; rw [List.map_append]; rfl
        rw [e2]
        exact H
    · repeat (first|refine zA ?_|refine zB rfl ?_|refine zC ?_|refine zD ?_|refine zE rfl ?_|refine zF ?_|refine zG ?_|refine zH ?_|refine zI ?_|refine zJ ?_|refine zK ?_|refine zL rfl ?_|refine zN rfl ?_)
      refine wp_ret (.inr ⟨by simp, ?_⟩)
      show wp EM _ _ _
      refine wp_loadoa (n := 7) H 1 rfl (Nat.le_of_ble_eq_true rfl) ?_
      refine wp_st H 3 rfl rfl rfl rfl fun S8 H => ?_
      refine wp_ret ⟨.inr rfl, ?_⟩
      have H : Cx S [] S8 [.sl u 4 (tks tl), .obj x (.row (s.cs u)), .sl vn 1 (ints N), .obj q (.row (s.cs u))] [.sl v 1 (ints l)] := H
      refine wp_loadoa (n := 7) H 3 rfl (Nat.le_of_ble_eq_true rfl) ?_
      exact wp_ret ⟨rfl, s, u, tl, rfl, hsm, htl2, by omega, by omega, (((H.dropAt 1).dropAt 1).dropAt 1).tl⟩
  refine wp_lss (fun hlt => ?_) (fun hge => ?_)
  · have hlt : i < 10 := by omega
    repeat (first|refine zA ?_|refine zB rfl ?_|refine zC ?_|refine zD ?_|refine zE rfl ?_|refine zF ?_|refine zG ?_|refine zH ?_|refine zI ?_|refine zJ ?_|refine zK ?_|refine zL rfl ?_|refine zN rfl ?_)
    refine wp_len H (by repeat (first | exact List.Mem.head _ | apply List.Mem.tail)) ?_
    rw [ints_len]
    repeat (first|refine zA ?_|refine zB rfl ?_|refine zC ?_|refine zD ?_|refine zE rfl ?_|refine zF ?_|refine zG ?_|refine zH ?_|refine zI ?_|refine zJ ?_|refine zK ?_|refine zL rfl ?_|refine zN rfl ?_)
    refine wp_lss (fun hl2 => ?_) (fun hg2 => ?_)
    · have hl2 : i < l.length := by omega
      repeat (first|refine zA ?_|refine zB rfl ?_|refine zC ?_|refine zD ?_|refine zE rfl ?_|refine zF ?_|refine zG ?_|refine zH ?_|refine zI ?_|refine zJ ?_|refine zK ?_|refine zL rfl ?_|refine zN rfl ?_)
      refine wp_bind ?_
      refine wp_saddr (v := v) (L := ints l) (i := i) (x := [I l[i]]) H (by repeat (first | exact List.Mem.head _ | apply List.Mem.tail)) (ints_getE hl2) fun p1 o1 H1 => ?_
      refine wp_load0 H1 (by repeat (first | exact List.Mem.head _ | apply List.Mem.tail)) rfl ?_
      refine wp_Pick H1.tl (by omega) fun S4 H => ?_
      have hp := pick_bd (a := l[i]) (n := 1000) (by omega)
      refine wp_storeE (i := i) (y := I (pick l[i] 1000)) H 0 rfl (by rw [ints_len]; omega) rfl rfl fun S5 H => ?_
      have H : Cx S [] S5 [.sl vn 1 ((ints N).set i [I (pick l[i] 1000)]), .obj q (.row [I 0, I 0, I 0, I 0, I 0, I 0, Ns])] [.sl v 1 (ints l)] := H
      rw [ints_set] at H
      refine wp_ret ?_
      show wp EM _ _ _
      refine wp_add64 (by omega) (by omega) (wp_ret (.inl ⟨rfl, 10 - (i + 1), by omega, i + 1, N.set i (pick l[i] 1000), rfl, by omega, rfl, by simpa using hN, ?_, H⟩))
      intro a ha
      rcases List.mem_or_eq_of_mem_set ha with ha | rfl
      · exact hall a ha
      · exact hp
    · repeat (first|refine zA ?_|refine zB rfl ?_|refine zC ?_|refine zD ?_|refine zE rfl ?_|refine zF ?_|refine zG ?_|refine zH ?_|refine zI ?_|refine zJ ?_|refine zK ?_|refine zL rfl ?_|refine zN rfl ?_)
      refine wp_ret (.inr ⟨by simp, ?_⟩)
      exact fin _ H
  · repeat (first|refine zA ?_|refine zB rfl ?_|refine zC ?_|refine zD ?_|refine zE rfl ?_|refine zF ?_|refine zG ?_|refine zH ?_|refine zI ?_|refine zJ ?_|refine zK ?_|refine zL rfl ?_|refine zN rfl ?_)
    refine wp_ret (.inr ⟨by simp, ?_⟩)
    exact fin _ H
/-! ### greater ones have greater bounds -/
theorem way_mono {m c h m' c' h' : Int} (s : sized m c h) (h1 : m ≤ m') (h2 : c ≤ c') (h3 : h ≤ h') : wayI m c h ≤ wayI m' c' h' := by
  unfold sized at s
  have := Int.mul_le_mul (a := 12 * h) (b := 2 * c + 1) (c := 12 * h') (d := 2 * c' + 1) (by omega) (by omega) (by omega) (by omega)
  unfold wayI
  omega
theorem holds_mono {m c h m' c' h' : Int} (s : sized m c h) (h1 : m ≤ m') (h2 : c ≤ c') (h3 : h ≤ h') : holdsI m c h ≤ holdsI m' c' h' := by
  have b := holds_bd s
  unfold sized at s
  have q1 := Int.mul_le_mul (a := 4 * m) (b := m + 2) (c := 4 * m') (d := m' + 2) (by omega) (by omega) (by omega) (by omega)
  have q2 := Int.mul_le_mul (a := 4 * m * (m + 2)) (b := h + 2) (c := 4 * m' * (m' + 2)) (d := h' + 2) q1 (by omega) (by omega) (by omega)
  exact Int.mul_le_mul q2 (by omega) (by omega) (by omega)
theorem any_mono {m c h m' c' h' : Int} (s : sized m c h) (h1 : m ≤ m') (h2 : c ≤ c') (h3 : h ≤ h') : anyI m c h ≤ anyI m' c' h' := by
  have b1 := way_bd s
  have b2 := holds_bd s
  have w := way_mono s h1 h2 h3
  have o := holds_mono s h1 h2 h3
  unfold sized at s
  have q1 := Int.mul_le_mul (a := m) (b := wayI m c h) (c := m') (d := wayI m' c' h') h1 w (by omega) (by omega)
  have q0 : 0 ≤ m' * wayI m' c' h' := Int.mul_nonneg (by omega) (by omega)
  exact Int.mul_le_mul q1 (by omega) (by omega) q0
theorem any_way {m c h : Int} (s : sized m c h) : m * wayI m c h ≤ anyI m c h := by
  have b1 := any_bd s
  have b2 := holds_bd s
  unfold anyI
  have h := Int.mul_nonneg b1.1.1 b2.2.2.1
  rw [Int.mul_add, Int.mul_one]
  omega
end Go.Abs
namespace Go.Abs
open Go.Proofs
set_option maxRecDepth 100000
set_option linter.unusedVariables false
open Tsk (Tk tks tchk tone)
section
variable {B0 S S1 : AH} {W : List Nat} {own : List Own} {ro : List Fct} {Q : Post} {k : AV → AC}
theorem Cx.freezeSl (H : Cx B0 W S own ro) {i es : Nat} {u : AV} {L : List (List AV)} (hi : own[i]? = some (.sl u es L)) : Cx B0 W S (own.eraseIdx i) (.sl u es L :: ro) := by
  have hmem := List.mem_of_getElem? hi
  have hsub : ∀ x ∈ own.eraseIdx i, x ∈ own := fun x hx => List.mem_of_mem_eraseIdx hx
  have K : Cx B0 W S (own.eraseIdx i) ro := H.dropOwn (List.eraseIdx_sublist _ _)
  refine K.addRo (ownSl_ok (H.oh _ hmem)) fun j hj => ⟨(H.oi _ hmem j hj).1, fun x hx hj2 => ?_⟩
  have hj : j ∈ (Own.sl u es L).ids := hj
  obtain ⟨m, hm⟩ := List.getElem?_of_mem hx
  have hp := H.od
  rw [List.pairwise_iff_getElem] at hp
  obtain ⟨hi1, hi2⟩ := List.getElem?_eq_some_iff.1 hi
  rw [List.getElem?_eraseIdx] at hm
  split at hm
  · rename_i hlt
    obtain ⟨hm1, hm2⟩ := List.getElem?_eq_some_iff.1 hm
    exact hp m i hm1 hi1 hlt j (by rw [hm2]; exact hj2) (by rw [hi2]; exact hj)
  · rename_i hge
    obtain ⟨hm1, hm2⟩ := List.getElem?_eq_some_iff.1 hm
    exact hp i (m + 1) hi1 hm1 (by omega) j (by rw [hi2]; exact hj) (by rw [hm2]; exact hj2)
/-- what a call has made -/
theorem Cx.join1 (H : Cx B0 W S own ro) {v : AV} {es : Nat} {L : List (List AV)} (K : Cx S [] S1 [.sl v es L] []) : Cx B0 W S1 own (.sl v es L :: ro) := by
  have H2 : Cx B0 W S1 (.sl v es L :: own) ro := H.addOwn K.grows (K.oh _ (List.Mem.head _)) fun id hid => by
    have := K.oi _ (List.Mem.head _) id hid
    refine ⟨?_, this.1⟩
    have h2 := this.2
    exact Nat.le_of_not_lt fun h => by have := h2 h; simp at this
  exact H2.freezeSl (i := 0) rfl
end
theorem boundGrows_ok {S : AH} {v v2 : AV} {l l2 : List Int} (hv : RoSl S v 1 (ints l)) (hv2 : RoSl S v2 1 (ints l2)) : wpC EM (.fn (.func 4) [] []) [v, v2] S fun r _ => r = B true := by
  refine wpC_fn (b := Tryz.a4) rfl rfl ?_
  have H := Cx.ro2 hv hv2
  unfold Tryz.a4 Tryz.a4x14 Tryz.a4x13 Tryz.a4x12 Tryz.a4x11 Tryz.a4x10 Tryz.a4x9 Tryz.a4x8 Tryz.a4x7 Tryz.a4x6 Tryz.a4x5 Tryz.a4x4 Tryz.a4x3 Tryz.a4x2 Tryz.a4x1 Tryz.a4x0
  refine wp_call (wpC_kn (v := B true) rfl ?_)
  refine wp_call (wpC_mono (small_ok (H.roSl (by repeat (first | exact List.Mem.head _ | apply List.Mem.tail)))) fun r S1 ⟨s, u, tl, hr, hs, ht, h1, h2, K⟩ => ?_)
  subst hr
  replace H := H.join1 K
  refine wp_call (wpC_mono (small_ok (l := l2) (H.roSl (by repeat (first | exact List.Mem.head _ | apply List.Mem.tail)))) fun r S2 ⟨s2, u2, tl2, hr, hs2, _, _, _, K2⟩ => ?_)
  subst hr
  replace H := H.join1 K2
  have hu := fun {S1 own ro} (H : Cx S [] S1 own ro) (hm : Fct.sl u 4 (tks tl) ∈ ro) => H.rh _ hm
  refine wp_alloc H fun p4 S3 H => ?_
  refine wp_alloc H fun p5 S4 H => ?_
  refine wp_st H 1 rfl rfl rfl rfl fun S5 H => ?_
  refine wp_st H 0 rfl rfl rfl rfl fun S6 H => ?_
  have H : Cx S [] S6 [.obj p5 (.row (s2.cs u2)), .obj p4 (.row (s.cs u))] [.sl u2 4 (tks tl2), .sl u 4 (tks tl), .sl v 1 (ints l), .sl v2 1 (ints l2)] := H
  have H := (H.freeze (i := 0) rfl).freeze (i := 0) rfl
  have H : Cx S [] S6 [] [.pt p4 0 (s.cs u), .pt p5 0 (s2.cs u2), .sl u2 4 (tks tl2), .sl u 4 (tks tl), .sl v 1 (ints l), .sl v2 1 (ints l2)] := H
  refine wp_ldn H (by repeat (first | exact List.Mem.head _ | apply List.Mem.tail)) rfl ?_
  refine wp_alloc H fun p9 S7 H => ?_
  refine wp_st H 0 rfl rfl rfl rfl fun S8 H => ?_
  have H : Cx S [] S8 [.obj p9 (.row (s.cs u))] [.pt p4 0 (s.cs u), .pt p5 0 (s2.cs u2), .sl u2 4 (tks tl2), .sl u 4 (tks tl), .sl v 1 (ints l), .sl v2 1 (ints l2)] := H
  repeat' (first | (first|refine zA ?_|refine zB rfl ?_|refine zC ?_|refine zD ?_|refine zE rfl ?_|refine zF ?_|refine zG ?_|refine zH ?_|refine zI ?_|refine zJ ?_|refine zK ?_|refine zL rfl ?_|refine zN rfl ?_) | refine wp_max2 ?_ | refine wp_ld (by assumption) (by repeat (first | exact List.Mem.head _ | apply List.Mem.tail)) rfl ?_ | refine wp_st (by assumption) 0 rfl rfl rfl rfl fun _ _ => ?_)
  rename_i S9 H9
  generalize hc : Su.mk (max s.cores s2.cores) (max s.jobs s2.jobs) (max s.nodes s2.nodes) (max s.height s2.height) s.room s.limit = c
  have hcz : c.chk tl = 0 := by
    subst hc
    unfold Su.small at hs hs2
    unfold Su.chk
    rw [if_pos (by unfold Su.fine; dsimp only; omega), tchk_small ht (by omega), if_neg (by simp), if_neg (by omega)]
  have hsz : s.chk tl = 0 := small_chk hs ht h1 h2
  have H : Cx S [] S9 [.obj p9 (.row (c.cs u))] [.pt p4 0 (s.cs u), .pt p5 0 (s2.cs u2), .sl u2 4 (tks tl2), .sl u 4 (tks tl), .sl v 1 (ints l), .sl v2 1 (ints l2)] := by
    subst hc; exact H9
  clear H9
  refine wp_ldn H (by repeat (first | exact List.Mem.head _ | apply List.Mem.tail)) rfl ?_
  refine wp_call (wpC_mono (layout_ok (s := s) (l := tl) (by have := hs; unfold Su.small at this; omega) (H.roSl (show Fct.sl u 4 (tks tl) ∈ _ by repeat (first | exact List.Mem.head _ | apply List.Mem.tail)))) fun r S10 ⟨ux, hr, K⟩ => ?_)
  rw [if_pos hsz] at K
  replace H := H.join1 K
  rcases hr with ⟨h, _⟩ | ⟨_, rfl⟩
  · exact absurd hsz h
  repeat (first|refine zA ?_|refine zB rfl ?_|refine zC ?_|refine zD ?_|refine zE rfl ?_|refine zF ?_|refine zG ?_|refine zH ?_|refine zI ?_|refine zJ ?_|refine zK ?_|refine zL rfl ?_|refine zN rfl ?_)
  refine wp_tmpN H rfl rfl rfl fun px S11 H => ?_
  refine wp_loadoa (n := 7) H 0 rfl (Nat.le_of_ble_eq_true rfl) ?_
  refine wp_call (wpC_mono (layout_ok (s := c) (l := tl) (by have := (lay_bd hcz).1; unfold Su.fine at this; omega) (H.roSl (show Fct.sl u 4 (tks tl) ∈ _ by repeat (first | exact List.Mem.head _ | apply List.Mem.tail)))) fun r S12 ⟨uy, hr, K⟩ => ?_)
  rw [if_pos hcz] at K
  replace H := H.join1 K
  rcases hr with ⟨h, _⟩ | ⟨_, rfl⟩
  · exact absurd hcz h
  repeat (first|refine zA ?_|refine zB rfl ?_|refine zC ?_|refine zD ?_|refine zE rfl ?_|refine zF ?_|refine zG ?_|refine zH ?_|refine zI ?_|refine zJ ?_|refine zK ?_|refine zL rfl ?_|refine zN rfl ?_)
  refine wp_tmpN H rfl rfl rfl fun py S13 H => ?_
  have hox : (layE s tl.length).ok tl := lay_ok hsz
  have hoy : (layE c tl.length).ok tl := lay_ok hcz
  have sx := hox.sized
  have sy := hoy.sized
  have m1 : (layE s tl.length).t.cores ≤ (layE c tl.length).t.cores := by subst hc; show s.cores ≤ max _ _; omega
  have m2 : (layE s tl.length).t.fsize ≤ (layE c tl.length).t.fsize := by subst hc; show s.nodes ≤ max _ _; omega
  have m3 : (layE s tl.length).t.ht ≤ (layE c tl.length).t.ht := by subst hc; show s.height ≤ max _ _; omega
  have wx : (layE s tl.length).way tl = _ := if_pos hox
  have wy : (layE c tl.length).way tl = _ := if_pos hoy
  have dx : (layE s tl.length).holds tl = _ := if_pos hox
  have dy : (layE c tl.length).holds tl = _ := if_pos hoy
  have ax : (layE s tl.length).any tl = _ := if_pos hox
  have ay : (layE c tl.length).any tl = _ := if_pos hoy
  have b1 := way_bd sx
  have b2 := way_mono sx m1 m2 m3
  have b3 := holds_mono sx m1 m2 m3
  have b4 := any_mono sx m1 m2 m3
  have b5 := any_way sx
  have b6 := any_bd sx
  have hcx : (layE s tl.length).t.cores = s.cores := rfl
  refine wp_neq_f rfl ?_
  repeat (first|refine zA ?_|refine zB rfl ?_|refine zC ?_|refine zD ?_|refine zE rfl ?_|refine zF ?_|refine zG ?_|refine zH ?_|refine zI ?_|refine zJ ?_|refine zK ?_|refine zL rfl ?_|refine zN rfl ?_)
  refine wp_neq_f rfl ?_
  repeat (first|refine zA ?_|refine zB rfl ?_|refine zC ?_|refine zD ?_|refine zE rfl ?_|refine zF ?_|refine zG ?_|refine zH ?_|refine zI ?_|refine zJ ?_|refine zK ?_|refine zL rfl ?_|refine zN rfl ?_)
  refine wp_ldn H (by repeat (first | exact List.Mem.head _ | apply List.Mem.tail)) rfl ?_
  repeat (first|refine zA ?_|refine zB rfl ?_|refine zC ?_|refine zD ?_|refine zE rfl ?_|refine zF ?_|refine zG ?_|refine zH ?_|refine zI ?_|refine zJ ?_|refine zK ?_|refine zL rfl ?_|refine zN rfl ?_)
  refine wp_callV H (way_ok (e := layE s tl.length) (l := tl) (by repeat (first | exact List.Mem.head _ | apply List.Mem.tail)) H) fun S14 H => ?_
  rw [wx]
  repeat (first|refine zA ?_|refine zB rfl ?_|refine zC ?_|refine zD ?_|refine zE rfl ?_|refine zF ?_|refine zG ?_|refine zH ?_|refine zI ?_|refine zJ ?_|refine zK ?_|refine zL rfl ?_|refine zN rfl ?_)
  refine wp_gtr_t (by omega) ?_
  repeat (first|refine zA ?_|refine zB rfl ?_|refine zC ?_|refine zD ?_|refine zE rfl ?_|refine zF ?_|refine zG ?_|refine zH ?_|refine zI ?_|refine zJ ?_|refine zK ?_|refine zL rfl ?_|refine zN rfl ?_)
  refine wp_ldn H (show Fct.pt px 0 ((layE s tl.length).cs ux) ∈ _ by repeat (first | exact List.Mem.head _ | apply List.Mem.tail)) rfl ?_
  repeat (first|refine zA ?_|refine zB rfl ?_|refine zC ?_|refine zD ?_|refine zE rfl ?_|refine zF ?_|refine zG ?_|refine zH ?_|refine zI ?_|refine zJ ?_|refine zK ?_|refine zL rfl ?_|refine zN rfl ?_)
  refine wp_ldn H (show Fct.pt py 0 ((layE c tl.length).cs uy) ∈ _ by repeat (first | exact List.Mem.head _ | apply List.Mem.tail)) rfl ?_
  repeat (first|refine zA ?_|refine zB rfl ?_|refine zC ?_|refine zD ?_|refine zE rfl ?_|refine zF ?_|refine zG ?_|refine zH ?_|refine zI ?_|refine zJ ?_|refine zK ?_|refine zL rfl ?_|refine zN rfl ?_)
  refine wp_callV H (way_ok (e := layE s tl.length) (l := tl) (v := ux) (by repeat (first | exact List.Mem.head _ | apply List.Mem.tail)) H) fun S14 H => ?_
  rw [wx]
  refine wp_gchk_t ?_
  refine wp_ckn (n := 29) (cs := (layE c tl.length).cs uy) H (by repeat (first | exact List.Mem.head _ | apply List.Mem.tail)) rfl rfl (Ex.cs_beq (H.rh _ (show Fct.sl uy 4 (tks tl) ∈ _ by repeat (first | exact List.Mem.head _ | apply List.Mem.tail)))) ?_
  repeat (first|refine zA ?_|refine zB rfl ?_|refine zC ?_|refine zD ?_|refine zE rfl ?_|refine zF ?_|refine zG ?_|refine zH ?_|refine zI ?_|refine zJ ?_|refine zK ?_|refine zL rfl ?_|refine zN rfl ?_)
  refine wp_callV H (way_ok (e := layE c tl.length) (l := tl) (v := uy) (by repeat (first | exact List.Mem.head _ | apply List.Mem.tail)) H) fun S14 H => ?_
  rw [wy]
  repeat (first|refine zA ?_|refine zB rfl ?_|refine zC ?_|refine zD ?_|refine zE rfl ?_|refine zF ?_|refine zG ?_|refine zH ?_|refine zI ?_|refine zJ ?_|refine zK ?_|refine zL rfl ?_|refine zN rfl ?_)
  refine wp_leq_t b2 ?_
  repeat (first|refine zA ?_|refine zB rfl ?_|refine zC ?_|refine zD ?_|refine zE rfl ?_|refine zF ?_|refine zG ?_|refine zH ?_|refine zI ?_|refine zJ ?_|refine zK ?_|refine zL rfl ?_|refine zN rfl ?_)
  refine wp_ldn H (show Fct.pt px 0 ((layE s tl.length).cs ux) ∈ _ by repeat (first | exact List.Mem.head _ | apply List.Mem.tail)) rfl ?_
  repeat (first|refine zA ?_|refine zB rfl ?_|refine zC ?_|refine zD ?_|refine zE rfl ?_|refine zF ?_|refine zG ?_|refine zH ?_|refine zI ?_|refine zJ ?_|refine zK ?_|refine zL rfl ?_|refine zN rfl ?_)
  refine wp_ldn H (show Fct.pt py 0 ((layE c tl.length).cs uy) ∈ _ by repeat (first | exact List.Mem.head _ | apply List.Mem.tail)) rfl ?_
  repeat (first|refine zA ?_|refine zB rfl ?_|refine zC ?_|refine zD ?_|refine zE rfl ?_|refine zF ?_|refine zG ?_|refine zH ?_|refine zI ?_|refine zJ ?_|refine zK ?_|refine zL rfl ?_|refine zN rfl ?_)
  refine wp_callV H (holds_ok (e := layE s tl.length) (l := tl) (v := ux) (by repeat (first | exact List.Mem.head _ | apply List.Mem.tail)) H) fun S14 H => ?_
  rw [dx]
  refine wp_gchk_t ?_
  refine wp_ckn (n := 29) (cs := (layE c tl.length).cs uy) H (by repeat (first | exact List.Mem.head _ | apply List.Mem.tail)) rfl rfl (Ex.cs_beq (H.rh _ (show Fct.sl uy 4 (tks tl) ∈ _ by repeat (first | exact List.Mem.head _ | apply List.Mem.tail)))) ?_
  repeat (first|refine zA ?_|refine zB rfl ?_|refine zC ?_|refine zD ?_|refine zE rfl ?_|refine zF ?_|refine zG ?_|refine zH ?_|refine zI ?_|refine zJ ?_|refine zK ?_|refine zL rfl ?_|refine zN rfl ?_)
  refine wp_callV H (holds_ok (e := layE c tl.length) (l := tl) (v := uy) (by repeat (first | exact List.Mem.head _ | apply List.Mem.tail)) H) fun S14 H => ?_
  rw [dy]
  repeat (first|refine zA ?_|refine zB rfl ?_|refine zC ?_|refine zD ?_|refine zE rfl ?_|refine zF ?_|refine zG ?_|refine zH ?_|refine zI ?_|refine zJ ?_|refine zK ?_|refine zL rfl ?_|refine zN rfl ?_)
  refine wp_leq_t b3 ?_
  repeat (first|refine zA ?_|refine zB rfl ?_|refine zC ?_|refine zD ?_|refine zE rfl ?_|refine zF ?_|refine zG ?_|refine zH ?_|refine zI ?_|refine zJ ?_|refine zK ?_|refine zL rfl ?_|refine zN rfl ?_)
  refine wp_ldn H (show Fct.pt px 0 ((layE s tl.length).cs ux) ∈ _ by repeat (first | exact List.Mem.head _ | apply List.Mem.tail)) rfl ?_
  repeat (first|refine zA ?_|refine zB rfl ?_|refine zC ?_|refine zD ?_|refine zE rfl ?_|refine zF ?_|refine zG ?_|refine zH ?_|refine zI ?_|refine zJ ?_|refine zK ?_|refine zL rfl ?_|refine zN rfl ?_)
  refine wp_ldn H (show Fct.pt py 0 ((layE c tl.length).cs uy) ∈ _ by repeat (first | exact List.Mem.head _ | apply List.Mem.tail)) rfl ?_
  repeat (first|refine zA ?_|refine zB rfl ?_|refine zC ?_|refine zD ?_|refine zE rfl ?_|refine zF ?_|refine zG ?_|refine zH ?_|refine zI ?_|refine zJ ?_|refine zK ?_|refine zL rfl ?_|refine zN rfl ?_)
  refine wp_callV H (any_ok (e := layE s tl.length) (l := tl) (v := ux) (by repeat (first | exact List.Mem.head _ | apply List.Mem.tail)) H) fun S14 H => ?_
  rw [ax]
  refine wp_gchk_t ?_
  refine wp_ckn (n := 29) (cs := (layE c tl.length).cs uy) H (by repeat (first | exact List.Mem.head _ | apply List.Mem.tail)) rfl rfl (Ex.cs_beq (H.rh _ (show Fct.sl uy 4 (tks tl) ∈ _ by repeat (first | exact List.Mem.head _ | apply List.Mem.tail)))) ?_
  repeat (first|refine zA ?_|refine zB rfl ?_|refine zC ?_|refine zD ?_|refine zE rfl ?_|refine zF ?_|refine zG ?_|refine zH ?_|refine zI ?_|refine zJ ?_|refine zK ?_|refine zL rfl ?_|refine zN rfl ?_)
  refine wp_callV H (any_ok (e := layE c tl.length) (l := tl) (v := uy) (by repeat (first | exact List.Mem.head _ | apply List.Mem.tail)) H) fun S14 H => ?_
  rw [ay]
  repeat (first|refine zA ?_|refine zB rfl ?_|refine zC ?_|refine zD ?_|refine zE rfl ?_|refine zF ?_|refine zG ?_|refine zH ?_|refine zI ?_|refine zJ ?_|refine zK ?_|refine zL rfl ?_|refine zN rfl ?_)
  refine wp_leq_t b4 ?_
  repeat (first|refine zA ?_|refine zB rfl ?_|refine zC ?_|refine zD ?_|refine zE rfl ?_|refine zF ?_|refine zG ?_|refine zH ?_|refine zI ?_|refine zJ ?_|refine zK ?_|refine zL rfl ?_|refine zN rfl ?_)
  refine wp_ldn H (show Fct.pt px 0 ((layE s tl.length).cs ux) ∈ _ by repeat (first | exact List.Mem.head _ | apply List.Mem.tail)) rfl ?_
  repeat (first|refine zA ?_|refine zB rfl ?_|refine zC ?_|refine zD ?_|refine zE rfl ?_|refine zF ?_|refine zG ?_|refine zH ?_|refine zI ?_|refine zJ ?_|refine zK ?_|refine zL rfl ?_|refine zN rfl ?_)
  refine wp_ld H (show Fct.pt p4 0 (s.cs u) ∈ _ by repeat (first | exact List.Mem.head _ | apply List.Mem.tail)) rfl ?_
  repeat (first|refine zA ?_|refine zB rfl ?_|refine zC ?_|refine zD ?_|refine zE rfl ?_|refine zF ?_|refine zG ?_|refine zH ?_|refine zI ?_|refine zJ ?_|refine zK ?_|refine zL rfl ?_|refine zN rfl ?_)
  refine wp_ldn H (show Fct.pt px 0 ((layE s tl.length).cs ux) ∈ _ by repeat (first | exact List.Mem.head _ | apply List.Mem.tail)) rfl ?_
  repeat (first|refine zA ?_|refine zB rfl ?_|refine zC ?_|refine zD ?_|refine zE rfl ?_|refine zF ?_|refine zG ?_|refine zH ?_|refine zI ?_|refine zJ ?_|refine zK ?_|refine zL rfl ?_|refine zN rfl ?_)
  refine wp_callV H (any_ok (e := layE s tl.length) (l := tl) (v := ux) (by repeat (first | exact List.Mem.head _ | apply List.Mem.tail)) H) fun S14 H => ?_
  rw [ax]
  refine wp_gchk_t ?_
  refine wp_ck H (show Fct.pt p4 0 (s.cs u) ∈ _ by repeat (first | exact List.Mem.head _ | apply List.Mem.tail)) rfl beq_num ?_
  refine wp_gchk_t ?_
  refine wp_ckn (n := 29) (cs := (layE s tl.length).cs ux) H (by repeat (first | exact List.Mem.head _ | apply List.Mem.tail)) rfl rfl (Ex.cs_beq (H.rh _ (show Fct.sl ux 4 (tks tl) ∈ _ by repeat (first | exact List.Mem.head _ | apply List.Mem.tail)))) ?_
  repeat (first|refine zA ?_|refine zB rfl ?_|refine zC ?_|refine zD ?_|refine zE rfl ?_|refine zF ?_|refine zG ?_|refine zH ?_|refine zI ?_|refine zJ ?_|refine zK ?_|refine zL rfl ?_|refine zN rfl ?_)
  refine wp_callV H (way_ok (e := layE s tl.length) (l := tl) (v := ux) (by repeat (first | exact List.Mem.head _ | apply List.Mem.tail)) H) fun S14 H => ?_
  rw [wx]
  refine wp_gchk_t ?_
  refine wp_ck H (show Fct.pt p4 0 (s.cs u) ∈ _ by repeat (first | exact List.Mem.head _ | apply List.Mem.tail)) rfl beq_num ?_
  repeat (first|refine zA ?_|refine zB rfl ?_|refine zC ?_|refine zD ?_|refine zE rfl ?_|refine zF ?_|refine zG ?_|refine zH ?_|refine zI ?_|refine zJ ?_|refine zK ?_|refine zL rfl ?_|refine zN rfl ?_)
  rw [hcx] at b5 b6
  refine wp_mul64 (by rw [hcx]; omega) (by rw [hcx]; omega) ?_
  repeat (first|refine zA ?_|refine zB rfl ?_|refine zC ?_|refine zD ?_|refine zE rfl ?_|refine zF ?_|refine zG ?_|refine zH ?_|refine zI ?_|refine zJ ?_|refine zK ?_|refine zL rfl ?_|refine zN rfl ?_)
  refine wp_geq_t (by rw [hcx]; exact b5) ?_
  repeat (first|refine zA ?_|refine zB rfl ?_|refine zC ?_|refine zD ?_|refine zE rfl ?_|refine zF ?_|refine zG ?_|refine zH ?_|refine zI ?_|refine zJ ?_|refine zK ?_|refine zL rfl ?_|refine zN rfl ?_)
  exact wp_ret ⟨rfl, rfl⟩
end Go.Abs
namespace Go.Abs
open Go.Proofs
set_option maxRecDepth 100000
set_option linter.unusedVariables false
open Tsk (Tk tks tchk tone)
/-! ### are two executives the same? -/
def ksN (n : Nat) : List (Option IntKind) := List.replicate n (some .i64)
section
variable {B0 S S1 : AH} {W : List Nat} {own : List Own} {ro : List Fct} {Q : Post} {k : AV → AC}
/-- a struct of numbers is the same as itself -/
theorem wp_eqN {t n : Nat} {ns : List Int} (hf : flatT EM.P 10 t = some (ksN n)) (hu : isStructB EM.P t = true) (hg : EM.P.eqGuardType EM.P.depth t = false) (hn : ns.length = n)
    (h : wp EM (k (B true)) S Q) : wp EM (.op (.eq t false (.agg (ns.map fun a => I a)) (.agg (ns.map fun a => I a))) k) S Q := by
  have hk : cellsK (ksN n) (ns.map (Value.int .i64)) = true := by
    subst hn
    clear hf hu hg h
    induction ns with
    | nil => rfl
    | cons a r ih => exact ih
  have e : (ns.map fun a => I a) = scs (ns.map (Value.int .i64)) := by unfold scs; rw [List.map_map]; rfl
  rw [e]
  exact wp_eqSelf hf (by omega) hu hg hk h
def ksT : List (Option IntKind) := [some .i64, some .i64, some .i64, some .i64]
theorem flatT4 : flatT EM.P 2 77 = some ksT := by kernel_rfl
theorem strT : isStructB EM.P 77 = true := by kernel_rfl
theorem grdT : EM.P.eqGuardType EM.P.depth 77 = false := by kernel_rfl
def tvs (x : Tk) : List Value := [.int .i64 x.kind, .int .i64 x.prio, .int .i64 x.every, .int .i64 x.first]
theorem tks_scs (l : List Tk) : tks l = (l.map tvs).map scs := by
  unfold Tsk.tks
  rw [List.map_map]
  rfl
theorem copyT_ok {S : AH} {v : AV} {l : List Tk} (hv : RoSl S v 4 (tks l)) (hl : l.length ≤ 100000) : wpC EM (.fn (.func 26) [] []) [v] S fun r S' => Cx S [] S' [.sl r 4 (tks l)] [] :=
  copy_ok (es := 4) (bytes := 32) (z := [I 0, I 0, I 0, I 0]) rfl rfl rfl hv (tks_all l) (by rw [Tsk.tks_len]; unfold maxBytes; omega) (by rw [Tsk.tks_len]; unfold maxLenN; omega)
theorem sameT_ok {S : AH} {v v' : AV} {l : List Tk} (hv : RoSl S v 4 (tks l)) (hv' : RoSl S v' 4 (tks l)) (hl : l.length ≤ 100000) : wpC EM (.fn (.func 31) [] []) [v, v'] S fun r S' => r = B true ∧ Grows S S' := by
  rw [tks_scs] at hv hv'
  exact sameS_ok (t := 77) (d := 2) (ks := ksT) rfl rfl hv hv' (by rw [List.length_map]; omega) rfl rfl flatT4 (by omega) strT grdT (fun vs hvs => by obtain ⟨x, _, rfl⟩ := List.mem_map.1 hvs; rfl)
theorem eqTower {e : Ex} (h : wp EM (k (B true)) S Q) : wp EM (.op (.eq 31 false (.agg e.t.cs) (.agg e.t.cs)) k) S Q :=
  wp_eqN (n := 13) (ns := [e.t.nd, e.t.hd, e.t.ht, e.t.ftop, e.t.flinks, e.t.fsize, e.t.gens, e.t.worn, e.t.lim, e.t.eat, e.t.pins, e.t.cores, e.t.tops]) (by kernel_rfl) (by kernel_rfl) (by kernel_rfl) rfl h
theorem eqGates {a b : Int} (h : wp EM (k (B true)) S Q) : wp EM (.op (.eq 33 false (.agg [I a, I b]) (.agg [I a, I b])) k) S Q := wp_eqN (n := 2) (ns := [a, b]) (by kernel_rfl) (by kernel_rfl) (by kernel_rfl) rfl h
theorem eqJobs {a b c d f : Int} (h : wp EM (k (B true)) S Q) : wp EM (.op (.eq 35 false (.agg [I a, I b, I c, I d, I f]) (.agg [I a, I b, I c, I d, I f])) k) S Q := wp_eqN (n := 5) (ns := [a, b, c, d, f]) (by kernel_rfl) (by kernel_rfl) (by kernel_rfl) rfl h
theorem eqMail {a b c : Int} (h : wp EM (k (B true)) S Q) : wp EM (.op (.eq 37 false (.agg [I a, I b, I c]) (.agg [I a, I b, I c])) k) S Q := wp_eqN (n := 3) (ns := [a, b, c]) (by kernel_rfl) (by kernel_rfl) (by kernel_rfl) rfl h
theorem eqRuns {a b c : Int} (h : wp EM (k (B true)) S Q) : wp EM (.op (.eq 39 false (.agg [I a, I b, I c]) (.agg [I a, I b, I c])) k) S Q := wp_eqN (n := 3) (ns := [a, b, c]) (by kernel_rfl) (by kernel_rfl) (by kernel_rfl) rfl h
theorem sameE_ok {S : AH} {e : Ex} {v v' : AV} {l : List Tk} (hv : RoSl S v 4 (tks l)) (hv' : RoSl S v' 4 (tks l)) (hl : l.length ≤ 100000) : wpC EM (.fn (.func 30) [] []) [.agg (e.cs v), .agg (e.cs v')] S fun r S' => r = B true ∧ Grows S S' := by
  refine wpC_fn (b := Tryz.a30) rfl rfl ?_
  have H := Cx.ro2 hv hv'
  unfold Tryz.a30 Tryz.a30x7 Tryz.a30x6 Tryz.a30x5 Tryz.a30x4 Tryz.a30x3 Tryz.a30x2 Tryz.a30x1 Tryz.a30x0
  refine wp_box H rfl fun p S1 H => ?_
  refine wp_box H rfl fun q S2 H => ?_
  have H : Cx S [] S2 [] [.pt q 0 (e.cs v'), .pt p 0 (e.cs v), .sl v 4 (tks l), .sl v' 4 (tks l)] := H
  repeat (first|refine zA ?_|refine zB rfl ?_|refine zC ?_|refine zD ?_|refine zE rfl ?_|refine zF ?_|refine zG ?_|refine zH ?_|refine zI ?_|refine zJ ?_|refine zK ?_|refine zL rfl ?_|refine zN rfl ?_)
  refine wp_ldn H (show Fct.pt p 0 (e.cs v) ∈ _ by repeat (first | exact List.Mem.head _ | apply List.Mem.tail)) rfl ?_
  repeat (first|refine zA ?_|refine zB rfl ?_|refine zC ?_|refine zD ?_|refine zE rfl ?_|refine zF ?_|refine zG ?_|refine zH ?_|refine zI ?_|refine zJ ?_|refine zK ?_|refine zL rfl ?_|refine zN rfl ?_)
  refine wp_ldn H (show Fct.pt q 0 (e.cs v') ∈ _ by repeat (first | exact List.Mem.head _ | apply List.Mem.tail)) rfl ?_
  refine eqTower (e := e) ?_
  repeat (first|refine zA ?_|refine zB rfl ?_|refine zC ?_|refine zD ?_|refine zE rfl ?_|refine zF ?_|refine zG ?_|refine zH ?_|refine zI ?_|refine zJ ?_|refine zK ?_|refine zL rfl ?_|refine zN rfl ?_)
  refine wp_ldn H (show Fct.pt p 0 (e.cs v) ∈ _ by repeat (first | exact List.Mem.head _ | apply List.Mem.tail)) rfl ?_
  repeat (first|refine zA ?_|refine zB rfl ?_|refine zC ?_|refine zD ?_|refine zE rfl ?_|refine zF ?_|refine zG ?_|refine zH ?_|refine zI ?_|refine zJ ?_|refine zK ?_|refine zL rfl ?_|refine zN rfl ?_)
  refine wp_ldn H (show Fct.pt q 0 (e.cs v') ∈ _ by repeat (first | exact List.Mem.head _ | apply List.Mem.tail)) rfl ?_
  repeat (first|refine zA ?_|refine zB rfl ?_|refine zC ?_|refine zD ?_|refine zE rfl ?_|refine zF ?_|refine zG ?_|refine zH ?_|refine zI ?_|refine zJ ?_|refine zK ?_|refine zL rfl ?_|refine zN rfl ?_)
  refine eqGates (a := e.gfirst) (b := e.gmany) ?_
  repeat (first|refine zA ?_|refine zB rfl ?_|refine zC ?_|refine zD ?_|refine zE rfl ?_|refine zF ?_|refine zG ?_|refine zH ?_|refine zI ?_|refine zJ ?_|refine zK ?_|refine zL rfl ?_|refine zN rfl ?_)
  refine wp_ldn H (show Fct.pt p 0 (e.cs v) ∈ _ by repeat (first | exact List.Mem.head _ | apply List.Mem.tail)) rfl ?_
  repeat (first|refine zA ?_|refine zB rfl ?_|refine zC ?_|refine zD ?_|refine zE rfl ?_|refine zF ?_|refine zG ?_|refine zH ?_|refine zI ?_|refine zJ ?_|refine zK ?_|refine zL rfl ?_|refine zN rfl ?_)
  refine wp_ldn H (show Fct.pt q 0 (e.cs v') ∈ _ by repeat (first | exact List.Mem.head _ | apply List.Mem.tail)) rfl ?_
  repeat (first|refine zA ?_|refine zB rfl ?_|refine zC ?_|refine zD ?_|refine zE rfl ?_|refine zF ?_|refine zG ?_|refine zH ?_|refine zI ?_|refine zJ ?_|refine zK ?_|refine zL rfl ?_|refine zN rfl ?_)
  refine eqJobs (a := e.jst) (b := e.jkeys) (c := e.jtop) (d := e.jlinks) (f := e.jsize) ?_
  repeat (first|refine zA ?_|refine zB rfl ?_|refine zC ?_|refine zD ?_|refine zE rfl ?_|refine zF ?_|refine zG ?_|refine zH ?_|refine zI ?_|refine zJ ?_|refine zK ?_|refine zL rfl ?_|refine zN rfl ?_)
  refine wp_ldn H (show Fct.pt p 0 (e.cs v) ∈ _ by repeat (first | exact List.Mem.head _ | apply List.Mem.tail)) rfl ?_
  repeat (first|refine zA ?_|refine zB rfl ?_|refine zC ?_|refine zD ?_|refine zE rfl ?_|refine zF ?_|refine zG ?_|refine zH ?_|refine zI ?_|refine zJ ?_|refine zK ?_|refine zL rfl ?_|refine zN rfl ?_)
  refine wp_ldn H (show Fct.pt q 0 (e.cs v') ∈ _ by repeat (first | exact List.Mem.head _ | apply List.Mem.tail)) rfl ?_
  repeat (first|refine zA ?_|refine zB rfl ?_|refine zC ?_|refine zD ?_|refine zE rfl ?_|refine zF ?_|refine zG ?_|refine zH ?_|refine zI ?_|refine zJ ?_|refine zK ?_|refine zL rfl ?_|refine zN rfl ?_)
  refine eqMail (a := e.mfirst) (b := e.mcores) (c := e.mroom) ?_
  repeat (first|refine zA ?_|refine zB rfl ?_|refine zC ?_|refine zD ?_|refine zE rfl ?_|refine zF ?_|refine zG ?_|refine zH ?_|refine zI ?_|refine zJ ?_|refine zK ?_|refine zL rfl ?_|refine zN rfl ?_)
  refine wp_ldn H (show Fct.pt p 0 (e.cs v) ∈ _ by repeat (first | exact List.Mem.head _ | apply List.Mem.tail)) rfl ?_
  repeat (first|refine zA ?_|refine zB rfl ?_|refine zC ?_|refine zD ?_|refine zE rfl ?_|refine zF ?_|refine zG ?_|refine zH ?_|refine zI ?_|refine zJ ?_|refine zK ?_|refine zL rfl ?_|refine zN rfl ?_)
  refine wp_ldn H (show Fct.pt q 0 (e.cs v') ∈ _ by repeat (first | exact List.Mem.head _ | apply List.Mem.tail)) rfl ?_
  repeat (first|refine zA ?_|refine zB rfl ?_|refine zC ?_|refine zD ?_|refine zE rfl ?_|refine zF ?_|refine zG ?_|refine zH ?_|refine zI ?_|refine zJ ?_|refine zK ?_|refine zL rfl ?_|refine zN rfl ?_)
  refine eqRuns (a := e.rruns) (b := e.rflags) (c := e.rcores) ?_
  repeat (first|refine zA ?_|refine zB rfl ?_|refine zC ?_|refine zD ?_|refine zE rfl ?_|refine zF ?_|refine zG ?_|refine zH ?_|refine zI ?_|refine zJ ?_|refine zK ?_|refine zL rfl ?_|refine zN rfl ?_)
  refine wp_ld H (show Fct.pt p 0 (e.cs v) ∈ _ by repeat (first | exact List.Mem.head _ | apply List.Mem.tail)) rfl ?_
  repeat (first|refine zA ?_|refine zB rfl ?_|refine zC ?_|refine zD ?_|refine zE rfl ?_|refine zF ?_|refine zG ?_|refine zH ?_|refine zI ?_|refine zJ ?_|refine zK ?_|refine zL rfl ?_|refine zN rfl ?_)
  refine wp_ld H (show Fct.pt q 0 (e.cs v') ∈ _ by repeat (first | exact List.Mem.head _ | apply List.Mem.tail)) rfl ?_
  repeat (first|refine zA ?_|refine zB rfl ?_|refine zC ?_|refine zD ?_|refine zE rfl ?_|refine zF ?_|refine zG ?_|refine zH ?_|refine zI ?_|refine zJ ?_|refine zK ?_|refine zL rfl ?_|refine zN rfl ?_)
  refine wp_eql_t rfl ?_
  repeat (first|refine zA ?_|refine zB rfl ?_|refine zC ?_|refine zD ?_|refine zE rfl ?_|refine zF ?_|refine zG ?_|refine zH ?_|refine zI ?_|refine zJ ?_|refine zK ?_|refine zL rfl ?_|refine zN rfl ?_)
  refine wp_ld H (show Fct.pt p 0 (e.cs v) ∈ _ by repeat (first | exact List.Mem.head _ | apply List.Mem.tail)) rfl ?_
  repeat (first|refine zA ?_|refine zB rfl ?_|refine zC ?_|refine zD ?_|refine zE rfl ?_|refine zF ?_|refine zG ?_|refine zH ?_|refine zI ?_|refine zJ ?_|refine zK ?_|refine zL rfl ?_|refine zN rfl ?_)
  refine wp_ld H (show Fct.pt q 0 (e.cs v') ∈ _ by repeat (first | exact List.Mem.head _ | apply List.Mem.tail)) rfl ?_
  repeat (first|refine zA ?_|refine zB rfl ?_|refine zC ?_|refine zD ?_|refine zE rfl ?_|refine zF ?_|refine zG ?_|refine zH ?_|refine zI ?_|refine zJ ?_|refine zK ?_|refine zL rfl ?_|refine zN rfl ?_)
  refine wp_eql_t rfl ?_
  repeat (first|refine zA ?_|refine zB rfl ?_|refine zC ?_|refine zD ?_|refine zE rfl ?_|refine zF ?_|refine zG ?_|refine zH ?_|refine zI ?_|refine zJ ?_|refine zK ?_|refine zL rfl ?_|refine zN rfl ?_)
  refine wp_ld H (show Fct.pt p 0 (e.cs v) ∈ _ by repeat (first | exact List.Mem.head _ | apply List.Mem.tail)) rfl ?_
  repeat (first|refine zA ?_|refine zB rfl ?_|refine zC ?_|refine zD ?_|refine zE rfl ?_|refine zF ?_|refine zG ?_|refine zH ?_|refine zI ?_|refine zJ ?_|refine zK ?_|refine zL rfl ?_|refine zN rfl ?_)
  refine wp_ld H (show Fct.pt q 0 (e.cs v') ∈ _ by repeat (first | exact List.Mem.head _ | apply List.Mem.tail)) rfl ?_
  repeat (first|refine zA ?_|refine zB rfl ?_|refine zC ?_|refine zD ?_|refine zE rfl ?_|refine zF ?_|refine zG ?_|refine zH ?_|refine zI ?_|refine zJ ?_|refine zK ?_|refine zL rfl ?_|refine zN rfl ?_)
  refine wp_callV H (sameT_ok (l := l) (H.roSl (by repeat (first | exact List.Mem.head _ | apply List.Mem.tail))) (H.roSl (by repeat (first | exact List.Mem.head _ | apply List.Mem.tail))) hl) fun S3 H => ?_
  repeat (first|refine zA ?_|refine zB rfl ?_|refine zC ?_|refine zD ?_|refine zE rfl ?_|refine zF ?_|refine zG ?_|refine zH ?_|refine zI ?_|refine zJ ?_|refine zK ?_|refine zL rfl ?_|refine zN rfl ?_)
  exact wp_ret ⟨rfl, rfl, H.grows⟩
theorem Su.cs_beq {s : Su} {v : AV} {l : List Tk} (hv : slOk S v 4 (tks l)) : ∀ x ∈ s.cs v, AV.beq x x = true := by
  intro x hx
  simp only [Su.cs, List.mem_cons, List.not_mem_nil, or_false] at hx
  rcases hx with rfl | rfl | rfl | rfl | rfl | rfl | rfl
  all_goals first | exact beq_num | exact Ex.beq_sl hv
/-- what a Layout has made, whatever came of it -/
def layV (s : Su) (l : List Tk) : Ex := if s.chk l = 0 then layE s l.length else ⟨⟨0, 0, 0, 0, 0, 0, 0, 0, 0, 0, 0, 0, 0⟩, 0, 0, 0, 0, 0, 0, 0, 0, 0, 0, 0, 0, 0, 0, 0⟩
def layM (s : Su) (l : List Tk) : Int := if s.chk l = 0 then layN s l.length else 0
theorem layR_all {s : Su} {l : List Tk} {u r : AV} (h : layR s l u r) : r = .tup [.agg ((layV s l).cs u), I (layM s l), I (s.chk l)] := by
  unfold layV layM
  rcases h with ⟨h, rfl, rfl⟩ | ⟨h, rfl⟩
  · rw [if_neg h, if_neg h]; rfl
  · rw [if_pos h, if_pos h, h]
theorem execSetup_ok {S : AH} {s : Su} {v : AV} {l : List Tk} (hj : -9223372036854775808 ≤ s.jobs) (hv : RoSl S v 4 (tks l)) : wpC EM (.fn (.func 6) [] []) [.agg (s.cs v)] S fun r _ => r = B true := by
  refine wpC_fn (b := Tryz.a6) rfl rfl ?_
  have H := Cx.ro1 hv
  have hvo := slOk_one hv.1
  unfold Tryz.a6 Tryz.a6x15 Tryz.a6x14 Tryz.a6x13 Tryz.a6x12 Tryz.a6x11 Tryz.a6x10 Tryz.a6x9 Tryz.a6x8 Tryz.a6x7 Tryz.a6x6 Tryz.a6x5 Tryz.a6x4 Tryz.a6x3 Tryz.a6x2 Tryz.a6x1 Tryz.a6x0
  refine wp_box H rfl fun p S1 H => ?_
  have H : Cx S [] S1 [] [.pt p 0 (s.cs v), .sl v 4 (tks l)] := H
  repeat (first|refine zA ?_|refine zB rfl ?_|refine zC ?_|refine zD ?_|refine zE rfl ?_|refine zF ?_|refine zG ?_|refine zH ?_|refine zI ?_|refine zJ ?_|refine zK ?_|refine zL rfl ?_|refine zN rfl ?_)
  refine wp_ld H (by repeat (first | exact List.Mem.head _ | apply List.Mem.tail)) rfl ?_
  refine wp_len H (by repeat (first | exact List.Mem.head _ | apply List.Mem.tail)) ?_
  rw [Tsk.tks_len]
  refine wp_gtr (fun hbig => ?_) (fun hsm => ?_)
  · repeat (first|refine zA ?_|refine zB rfl ?_|refine zC ?_|refine zD ?_|refine zE rfl ?_|refine zF ?_|refine zG ?_|refine zH ?_|refine zI ?_|refine zJ ?_|refine zK ?_|refine zL rfl ?_|refine zN rfl ?_)
    exact wp_call (wpC_kn (v := B true) rfl (wp_ret ⟨rfl, rfl⟩))
  repeat (first|refine zA ?_|refine zB rfl ?_|refine zC ?_|refine zD ?_|refine zE rfl ?_|refine zF ?_|refine zG ?_|refine zH ?_|refine zI ?_|refine zJ ?_|refine zK ?_|refine zL rfl ?_|refine zN rfl ?_)
  refine wp_ldn H (by repeat (first | exact List.Mem.head _ | apply List.Mem.tail)) rfl ?_
  refine wp_alloc H fun pi S2 H => ?_
  refine wp_st H 0 rfl rfl rfl rfl fun S3 H => ?_
  repeat (first|refine zA ?_|refine zB rfl ?_|refine zC ?_|refine zD ?_|refine zE rfl ?_|refine zF ?_|refine zG ?_|refine zH ?_|refine zI ?_|refine zJ ?_|refine zK ?_|refine zL rfl ?_|refine zN rfl ?_)
  refine wp_ld H (show Fct.pt p 0 (s.cs v) ∈ _ by repeat (first | exact List.Mem.head _ | apply List.Mem.tail)) rfl ?_
  refine wp_call (wpC_mono (copyT_ok (l := l) (H.roSl (by repeat (first | exact List.Mem.head _ | apply List.Mem.tail))) (by omega)) fun vi S4 K => ?_)
  replace H := H.join1 K
  have hvi := slOk_one (H.rh _ (List.Mem.head _))
  repeat (first|refine zA ?_|refine zB rfl ?_|refine zC ?_|refine zD ?_|refine zE rfl ?_|refine zF ?_|refine zG ?_|refine zH ?_|refine zI ?_|refine zJ ?_|refine zK ?_|refine zL rfl ?_|refine zN rfl ?_)
  refine wp_st H 0 rfl hvi.1 (by rw [hvi.2]; rfl) rfl fun S5 H => ?_
  rw [hvi.2] at H
  have H : Cx S [] S5 [.obj pi (.row (s.cs vi))] [.sl vi 4 (tks l), .pt p 0 (s.cs v), .sl v 4 (tks l)] := H
  have H : Cx S [] S5 [] [.pt pi 0 (s.cs vi), .sl vi 4 (tks l), .pt p 0 (s.cs v), .sl v 4 (tks l)] := H.freeze (i := 0) rfl
  refine wp_ldn H (show Fct.pt pi 0 (s.cs vi) ∈ _ by repeat (first | exact List.Mem.head _ | apply List.Mem.tail)) rfl ?_
  refine wp_call (wpC_mono (layout_ok (s := s) (l := l) hj (H.roSl (show Fct.sl vi 4 (tks l) ∈ _ by repeat (first | exact List.Mem.head _ | apply List.Mem.tail)))) fun r S6 ⟨ua, hr, K⟩ => ?_)
  rw [layR_all hr]
  -- its tasks are written over later
  have H6 : Cx S [] S6 [.sl ua 4 (if s.chk l = 0 then tks l else [])] [.pt pi 0 (s.cs vi), .sl vi 4 (tks l), .pt p 0 (s.cs v), .sl v 4 (tks l)] := H.addOwn K.grows (K.oh _ (List.Mem.head _)) fun id hid => by
    have := K.oi _ (List.Mem.head _) id hid
    refine ⟨?_, this.1⟩
    have h2 := this.2
    exact Nat.le_of_not_lt fun h => by have := h2 h; simp at this
  obtain ⟨l', hl', hln⟩ : ∃ l' : List Tk, (if s.chk l = 0 then tks l else []) = tks l' ∧ l'.length ≤ 40 := by
    by_cases hz : s.chk l = 0
    · exact ⟨l, if_pos hz, by omega⟩
    · exact ⟨[], if_neg hz, by simp⟩
  rw [hl'] at H6
  clear H K
  have hua := ownSl_ok (H6.oh _ (List.Mem.head _))
  repeat (first|refine zA ?_|refine zB rfl ?_|refine zC ?_|refine zD ?_|refine zE rfl ?_|refine zF ?_|refine zG ?_|refine zH ?_|refine zI ?_|refine zJ ?_|refine zK ?_|refine zL rfl ?_|refine zN rfl ?_)
  refine wp_tmpN H6 rfl rfl rfl fun pa S7 H => ?_
  refine wp_ldn H (show Fct.pt p 0 (s.cs v) ∈ _ by repeat (first | exact List.Mem.head _ | apply List.Mem.tail)) rfl ?_
  refine wp_call (wpC_mono (rlayout_ok (s := s) (l := l) (H.roSl (show Fct.sl v 4 (tks l) ∈ _ by repeat (first | exact List.Mem.head _ | apply List.Mem.tail)))) fun r S8 ⟨ub, hr2, K⟩ => ?_)
  rw [layR_all hr2]
  rw [hl'] at K
  replace H := H.join1 K
  repeat (first|refine zA ?_|refine zB rfl ?_|refine zC ?_|refine zD ?_|refine zE rfl ?_|refine zF ?_|refine zG ?_|refine zH ?_|refine zI ?_|refine zJ ?_|refine zK ?_|refine zL rfl ?_|refine zN rfl ?_)
  refine wp_tmpN H rfl rfl rfl fun pb S9 H => ?_
  refine wp_ldn H (show Fct.pt pi 0 (s.cs vi) ∈ _ by repeat (first | exact List.Mem.head _ | apply List.Mem.tail)) rfl ?_
  refine wp_ldn H (show Fct.pt p 0 (s.cs v) ∈ _ by repeat (first | exact List.Mem.head _ | apply List.Mem.tail)) rfl ?_
  refine wp_callV H (checkE_ok (s := s) (l := l) (v := vi) hj (by repeat (first | exact List.Mem.head _ | apply List.Mem.tail)) H) fun S10 H => ?_
  refine wp_ckn (n := 7) (cs := s.cs v) H (by repeat (first | exact List.Mem.head _ | apply List.Mem.tail)) rfl rfl (Su.cs_beq (H.rh _ (show Fct.sl v 4 (tks l) ∈ _ by repeat (first | exact List.Mem.head _ | apply List.Mem.tail)))) ?_
  refine wp_callV H (rcheckE_ok (s := s) (l := l) (v := v) (by repeat (first | exact List.Mem.head _ | apply List.Mem.tail)) H) fun S11 H => ?_
  refine wp_neq_f rfl ?_
  repeat (first|refine zA ?_|refine zB rfl ?_|refine zC ?_|refine zD ?_|refine zE rfl ?_|refine zF ?_|refine zG ?_|refine zH ?_|refine zI ?_|refine zJ ?_|refine zK ?_|refine zL rfl ?_|refine zN rfl ?_)
  refine wp_neq_f rfl ?_
  repeat (first|refine zA ?_|refine zB rfl ?_|refine zC ?_|refine zD ?_|refine zE rfl ?_|refine zF ?_|refine zG ?_|refine zH ?_|refine zI ?_|refine zJ ?_|refine zK ?_|refine zL rfl ?_|refine zN rfl ?_)
  refine wp_neq_f rfl ?_
  repeat (first|refine zA ?_|refine zB rfl ?_|refine zC ?_|refine zD ?_|refine zE rfl ?_|refine zF ?_|refine zG ?_|refine zH ?_|refine zI ?_|refine zJ ?_|refine zK ?_|refine zL rfl ?_|refine zN rfl ?_)
  -- what they tell is the same
  refine wp_ldn H (show Fct.pt pa 0 ((layV s l).cs ua) ∈ _ by repeat (first | exact List.Mem.head _ | apply List.Mem.tail)) rfl ?_
  repeat (first|refine zA ?_|refine zB rfl ?_|refine zC ?_|refine zD ?_|refine zE rfl ?_|refine zF ?_|refine zG ?_|refine zH ?_|refine zI ?_|refine zJ ?_|refine zK ?_|refine zL rfl ?_|refine zN rfl ?_)
  refine wp_ldn H (show Fct.pt pb 0 ((layV s l).cs ub) ∈ _ by repeat (first | exact List.Mem.head _ | apply List.Mem.tail)) rfl ?_
  repeat (first|refine zA ?_|refine zB rfl ?_|refine zC ?_|refine zD ?_|refine zE rfl ?_|refine zF ?_|refine zG ?_|refine zH ?_|refine zI ?_|refine zJ ?_|refine zK ?_|refine zL rfl ?_|refine zN rfl ?_)
  refine wp_callV H (sameE_ok (e := layV s l) (l := l') (v := ua) (v' := ub) (H.ownSl (n := 0) rfl) (H.roSl (by repeat (first | exact List.Mem.head _ | apply List.Mem.tail))) (by omega)) fun S12 H => ?_
  repeat (first|refine zA ?_|refine zB rfl ?_|refine zC ?_|refine zD ?_|refine zE rfl ?_|refine zF ?_|refine zG ?_|refine zH ?_|refine zI ?_|refine zJ ?_|refine zK ?_|refine zL rfl ?_|refine zN rfl ?_)
  refine wp_notT ?_
  repeat (first|refine zA ?_|refine zB rfl ?_|refine zC ?_|refine zD ?_|refine zE rfl ?_|refine zF ?_|refine zG ?_|refine zH ?_|refine zI ?_|refine zJ ?_|refine zK ?_|refine zL rfl ?_|refine zN rfl ?_)
  refine wp_ld H (show Fct.pt pi 0 (s.cs vi) ∈ _ by repeat (first | exact List.Mem.head _ | apply List.Mem.tail)) rfl ?_
  repeat (first|refine zA ?_|refine zB rfl ?_|refine zC ?_|refine zD ?_|refine zE rfl ?_|refine zF ?_|refine zG ?_|refine zH ?_|refine zI ?_|refine zJ ?_|refine zK ?_|refine zL rfl ?_|refine zN rfl ?_)
  refine wp_ld H (show Fct.pt p 0 (s.cs v) ∈ _ by repeat (first | exact List.Mem.head _ | apply List.Mem.tail)) rfl ?_
  repeat (first|refine zA ?_|refine zB rfl ?_|refine zC ?_|refine zD ?_|refine zE rfl ?_|refine zF ?_|refine zG ?_|refine zH ?_|refine zI ?_|refine zJ ?_|refine zK ?_|refine zL rfl ?_|refine zN rfl ?_)
  refine wp_callV H (sameT_ok (l := l) (v := vi) (v' := v) (H.roSl (by repeat (first | exact List.Mem.head _ | apply List.Mem.tail))) (H.roSl (by repeat (first | exact List.Mem.head _ | apply List.Mem.tail))) (by omega)) fun S13 H => ?_
  repeat (first|refine zA ?_|refine zB rfl ?_|refine zC ?_|refine zD ?_|refine zE rfl ?_|refine zF ?_|refine zG ?_|refine zH ?_|refine zI ?_|refine zJ ?_|refine zK ?_|refine zL rfl ?_|refine zN rfl ?_)
  refine wp_notT ?_
  repeat (first|refine zA ?_|refine zB rfl ?_|refine zC ?_|refine zD ?_|refine zE rfl ?_|refine zF ?_|refine zG ?_|refine zH ?_|refine zI ?_|refine zJ ?_|refine zK ?_|refine zL rfl ?_|refine zN rfl ?_)
  refine wp_bind (wp_loop (wpL_inv (fun m vs S1 => ∃ (i : Nat) (L : List (List AV)), vs = [I (i : Int)] ∧ L.length = l'.length ∧ i ≤ l'.length ∧ m = l'.length - i ∧ Cx S [] S1 [.sl ua 4 L] [.pt pb 0 ((layV s l).cs ub), .sl ub 4 (tks l'), .pt pa 0 ((layV s l).cs ua), .pt pi 0 (s.cs vi), .sl vi 4 (tks l), .pt p 0 (s.cs v), .sl v 4 (tks l)]) ?_ l'.length ⟨0, tks l', rfl, Tsk.tks_len l', by omega, by omega, H⟩))
  clear H H6 K
  rintro m vs S14 ⟨i, L, rfl, hL, hi, rfl, H⟩
  repeat (first|refine zA ?_|refine zB rfl ?_|refine zC ?_|refine zD ?_|refine zE rfl ?_|refine zF ?_|refine zG ?_|refine zH ?_|refine zI ?_|refine zJ ?_|refine zK ?_|refine zL rfl ?_|refine zN rfl ?_)
  refine wp_ld H (show Fct.pt pa 0 ((layV s l).cs ua) ∈ _ by repeat (first | exact List.Mem.head _ | apply List.Mem.tail)) rfl ?_
  refine wp_leno H 0 rfl ?_
  refine wp_lss (fun hlt => ?_) (fun hge => ?_)
  · repeat (first|refine zA ?_|refine zB rfl ?_|refine zC ?_|refine zD ?_|refine zE rfl ?_|refine zF ?_|refine zG ?_|refine zH ?_|refine zI ?_|refine zJ ?_|refine zK ?_|refine zL rfl ?_|refine zN rfl ?_)
    refine wp_bind ?_
    repeat (first|refine zA ?_|refine zB rfl ?_|refine zC ?_|refine zD ?_|refine zE rfl ?_|refine zF ?_|refine zG ?_|refine zH ?_|refine zI ?_|refine zJ ?_|refine zK ?_|refine zL rfl ?_|refine zN rfl ?_)
    refine wp_ld H (show Fct.pt pa 0 ((layV s l).cs ua) ∈ _ by repeat (first | exact List.Mem.head _ | apply List.Mem.tail)) rfl ?_
    refine wp_op (v := .agg [I (-77), I 0, I 0, I 0]) rfl ?_
    refine wp_storeE (i := i) (y := .agg [I (-77), I 0, I 0, I 0]) H 0 rfl (by omega) rfl rfl fun S15 H => ?_
    refine wp_ret ?_
    show wp EM _ _ _
    exact wp_add64 (by omega) (by omega) (wp_ret (.inl ⟨rfl, l'.length - (i + 1), by omega, i + 1, L.set i [I (-77), I 0, I 0, I 0], rfl, by rw [List.length_set]; exact hL, by omega, rfl, H⟩))
  · repeat (first|refine zA ?_|refine zB rfl ?_|refine zC ?_|refine zD ?_|refine zE rfl ?_|refine zF ?_|refine zG ?_|refine zH ?_|refine zI ?_|refine zJ ?_|refine zK ?_|refine zL rfl ?_|refine zN rfl ?_)
    refine wp_ret (.inr ⟨by simp, ?_⟩)
    show wp EM _ _ _
    refine wp_ldn H (show Fct.pt pi 0 (s.cs vi) ∈ _ by repeat (first | exact List.Mem.head _ | apply List.Mem.tail)) rfl ?_
    refine wp_call (wpC_mono (layout_ok (s := s) (l := l) hj (H.roSl (show Fct.sl vi 4 (tks l) ∈ _ by repeat (first | exact List.Mem.head _ | apply List.Mem.tail)))) fun r S16 ⟨uc, hr3, K⟩ => ?_)
    rw [layR_all hr3]
    rw [hl'] at K
    replace H := H.join1 K
    repeat (first|refine zA ?_|refine zB rfl ?_|refine zC ?_|refine zD ?_|refine zE rfl ?_|refine zF ?_|refine zG ?_|refine zH ?_|refine zI ?_|refine zJ ?_|refine zK ?_|refine zL rfl ?_|refine zN rfl ?_)
    refine wp_tmpN H rfl rfl rfl fun pc S17 H => ?_
    refine wp_ldn H (show Fct.pt pc 0 ((layV s l).cs uc) ∈ _ by repeat (first | exact List.Mem.head _ | apply List.Mem.tail)) rfl ?_
    refine wp_ldn H (show Fct.pt pb 0 ((layV s l).cs ub) ∈ _ by repeat (first | exact List.Mem.head _ | apply List.Mem.tail)) rfl ?_
    refine wp_callV H (sameE_ok (e := layV s l) (l := l') (v := uc) (v' := ub) (H.roSl (by repeat (first | exact List.Mem.head _ | apply List.Mem.tail))) (H.roSl (by repeat (first | exact List.Mem.head _ | apply List.Mem.tail))) (by omega)) fun S18 H => ?_
    repeat (first|refine zA ?_|refine zB rfl ?_|refine zC ?_|refine zD ?_|refine zE rfl ?_|refine zF ?_|refine zG ?_|refine zH ?_|refine zI ?_|refine zJ ?_|refine zK ?_|refine zL rfl ?_|refine zN rfl ?_)
    refine wp_ld H (show Fct.pt pi 0 (s.cs vi) ∈ _ by repeat (first | exact List.Mem.head _ | apply List.Mem.tail)) rfl ?_
    repeat (first|refine zA ?_|refine zB rfl ?_|refine zC ?_|refine zD ?_|refine zE rfl ?_|refine zF ?_|refine zG ?_|refine zH ?_|refine zI ?_|refine zJ ?_|refine zK ?_|refine zL rfl ?_|refine zN rfl ?_)
    refine wp_ld H (show Fct.pt p 0 (s.cs v) ∈ _ by repeat (first | exact List.Mem.head _ | apply List.Mem.tail)) rfl ?_
    repeat (first|refine zA ?_|refine zB rfl ?_|refine zC ?_|refine zD ?_|refine zE rfl ?_|refine zF ?_|refine zG ?_|refine zH ?_|refine zI ?_|refine zJ ?_|refine zK ?_|refine zL rfl ?_|refine zN rfl ?_)
    refine wp_callV H (sameT_ok (l := l) (v := vi) (v' := v) (H.roSl (by repeat (first | exact List.Mem.head _ | apply List.Mem.tail))) (H.roSl (by repeat (first | exact List.Mem.head _ | apply List.Mem.tail))) (by omega)) fun S19 H => ?_
    repeat (first|refine zA ?_|refine zB rfl ?_|refine zC ?_|refine zD ?_|refine zE rfl ?_|refine zF ?_|refine zG ?_|refine zH ?_|refine zI ?_|refine zJ ?_|refine zK ?_|refine zL rfl ?_|refine zN rfl ?_)
    refine wp_call (wpC_kn (v := B true) rfl ?_)
    repeat (first|refine zA ?_|refine zB rfl ?_|refine zC ?_|refine zD ?_|refine zE rfl ?_|refine zF ?_|refine zG ?_|refine zH ?_|refine zI ?_|refine zJ ?_|refine zK ?_|refine zL rfl ?_|refine zN rfl ?_)
    exact wp_ret ⟨rfl, rfl⟩
end
end Go.Abs
