/- functions of this cut: what they compute, in the abstract machine. Conditions: stated in each theorem -/
import Derived.Test.YtpmhpfmigkoggaaGreatV
import Derived.Test.YtpmhpfmigkoggaaGreatAc
set_option linter.unusedVariables false
set_option linter.unusedSimpArgs false
namespace Go.Abs
section
variable {M : Mach} {S : AH} {Q : Post} {k : AV → AC}
theorem zA {g : Bool} {o : AOp} (h : wp M (.op o k) S Q) : wp M (.gop (B g) g o k) S Q := wp_gop_t h
theorem zB {g g' : Bool} {o : AOp} (hg : g' = !g) (h : wp M (k uv) S Q) : wp M (.gop (B g) g' o k) S Q := wp_gop_f hg h
theorem zC {g' : Bool} {o : AOp} (h : wp M (k uv) S Q) : wp M (.gop uv g' o k) S Q := wp_gop_u h
theorem zD {g : Bool} {f : AV} {args : List AV} (h : wp M (.call f args k) S Q) : wp M (.gcall (B g) g f args k) S Q := wp_gcall_t h
theorem zE {g g' : Bool} {f : AV} {args : List AV} (hg : g' = !g) (h : wp M (k uv) S Q) : wp M (.gcall (B g) g' f args k) S Q := wp_gcall_f hg h
theorem zF {g' : Bool} {f : AV} {args : List AV} (h : wp M (k uv) S Q) : wp M (.gcall uv g' f args k) S Q := wp_gcall_u h
theorem zG {x y : AC} (h : wp M x S Q) : wp M (.ite (B true) x y) S Q := wp_ite_t h
theorem zH {x y : AC} (h : wp M y S Q) : wp M (.ite (B false) x y) S Q := wp_ite_f h
theorem zI {id off f : Nat} (h : wp M (k (.ptr id (Nat.add off f))) S Q) : wp M (.op (.faddr f (.ptr id off)) k) S Q := wp_faddr h
theorem zJ {id off : Nat} (h : wp M (k (.ptr id off)) S Q) : wp M (.op (.nilchk (.ptr id off)) k) S Q := wp_nilchk h
theorem zK {x : AV} (h : wp M (k x) S Q) : wp M (.op (.mv x) k) S Q := wp_op rfl h
theorem zL {c a b v : AV} (he : pPick c a b = some v) (h : wp M (k v) S Q) : wp M (.op (.pick c a b) k) S Q := wp_op (by show pur (pPick c a b) S = _; rw [he]; rfl) h
theorem zN {i : Nat} {x v : AV} (he : pExtract i x = some v) (h : wp M (k v) S Q) : wp M (.op (.extract i x) k) S Q := wp_op (by show pur (pExtract i x) S = _; rw [he]; rfl) h
end
end Go.Abs
namespace Go.Abs
open Go.Proofs
set_option maxRecDepth 100000
set_option linter.unusedVariables false
noncomputable def EM : Mach := ⟨Tryz.prog, Tryz.tbl, ⟨knV [(6, .bool true)], noKn.x⟩⟩

section
variable {M : Mach} {B0 S : AH} {W : List Nat} {own : List Own} {ro : List Fct} {Q : Post} {k : AV → AC} {kc : AC}
/-! ### loads of what is known, by a whole offset -/
theorem wp_ld (H : Cx B0 W S own ro) {id o : Nat} {cs : List AV} {v : AV} (hm : Fct.pt id 0 cs ∈ ro) (hj : cs[o]? = some v) (h : wp M (k v) S Q) : wp M (.op (.load 1 false (.ptr id o)) k) S Q := by
  have := wp_load1 (M := M) (k := k) (off := 0) (j := o) H hm hj h
  rwa [show Nat.add 0 o = o from Nat.zero_add o] at this
theorem wp_ldn (H : Cx B0 W S own ro) {id o n : Nat} {cs : List AV} (hm : Fct.pt id 0 cs ∈ ro) (hj : Nat.ble (o + n) cs.length = true) (h : wp M (k (.agg ((cs.drop o).take n))) S Q) : wp M (.op (.load n true (.ptr id o)) k) S Q := by
  have := wp_loadn (M := M) (k := k) (off := 0) (j := o) H hm (Nat.le_of_ble_eq_true hj) h
  rwa [show Nat.add 0 o = o from Nat.zero_add o] at this
/-- a copy that nobody turns -/
theorem wp_tmpN (H : Cx B0 W S own ro) {z : List AV} {n : Nat} {v : AV} (ho : odd v = false) (hz : z.length = n) (hn : v.cells.length = n) (h : ∀ id S1, Cx B0 W S1 own (.pt id 0 v.cells :: ro) → wp M (k (.ptr id 0)) S1 Q) :
    wp M (.op (.alloc z) fun p => .op (.store n p v) fun _ => k p) S Q := by
  refine wp_alloc H fun id S1 H1 => ?_
  refine wp_store H1 0 (c := z) rfl ho hn (by omega) fun S2 H2 => ?_
  have e : setRange z 0 v.cells = v.cells := by
    rw [setRange_eq, List.take_zero, List.nil_append, Nat.zero_add, List.drop_eq_nil_of_le (by omega), List.append_nil]
  have H2 : Cx B0 W S2 (.obj id (.row (setRange z 0 v.cells)) :: own) ro := H2
  rw [e] at H2
  exact h id S2 (H2.freeze (i := 0) rfl)
theorem wp_notT (h : wp M (k (B false)) S Q) : wp M (.op (.un .not (B true)) k) S Q := wp_op (v := B false) rfl h
theorem wp_notF (h : wp M (k (B true)) S Q) : wp M (.op (.un .not (B false)) k) S Q := wp_op (v := B true) rfl h
theorem wp_not {b : Bool} (h : wp M (k (B (!b))) S Q) : wp M (.op (.un .not (B b)) k) S Q := wp_op (v := B (!b)) rfl h
end
/-! ### where an executive lies -/
structure To where
  nd : Int
  hd : Int
  ht : Int
  ftop : Int
  flinks : Int
  fsize : Int
  gens : Int
  worn : Int
  lim : Int
  eat : Int
  pins : Int
  cores : Int
  tops : Int
def To.cs (t : To) : List AV := [I t.nd, I t.hd, I t.ht, I t.ftop, I t.flinks, I t.fsize, I t.gens, I t.worn, I t.lim, I t.eat, I t.pins, I t.cores, I t.tops]
def To.ok (t : To) : Prop := 1 ≤ t.ht ∧ t.ht ≤ 4 ∧ 1 ≤ t.fsize ∧ t.fsize ≤ 128 ∧ 0 ≤ t.nd ∧ t.nd < 4096 ∧ 0 ≤ t.hd ∧ t.hd < 4096
instance (t : To) : Decidable t.ok := inferInstanceAs (Decidable (_ ∧ _))
theorem sound_ok {S : AH} {t : To} : wpC EM (.fn (.func 101) [] []) [.agg t.cs] S fun r S' => r = B (decide t.ok) ∧ Grows S S' := by
  refine wpC_fn (b := Tryz.a101) rfl rfl ?_
  have H : Cx S [] S [] [] := Cx.enter (by simp)
  unfold To.ok Tryz.a101 Tryz.a101x4 Tryz.a101x3 Tryz.a101x2 Tryz.a101x1 Tryz.a101x0
  repeat' (first | (first|refine zA ?_|refine zB rfl ?_|refine zC ?_|refine zD ?_|refine zE rfl ?_|refine zF ?_|refine zG ?_|refine zH ?_|refine zI ?_|refine zJ ?_|refine zK ?_|refine zL rfl ?_|refine zN rfl ?_) | refine wp_bind ?_ | refine wp_box (by assumption) rfl fun _ _ _ => ?_ | refine wp_tmpN (by assumption) rfl rfl rfl fun _ _ _ => ?_ | refine wp_ld (by assumption) (by repeat (first | exact List.Mem.head _ | apply List.Mem.tail)) rfl ?_ | refine wp_ldn (by assumption) (by repeat (first | exact List.Mem.head _ | apply List.Mem.tail)) rfl ?_ | refine wp_notT ?_ | refine wp_notF ?_ | (refine wp_ret ?_; show wp EM _ _ _) | refine wp_lss (fun _ => ?_) (fun _ => ?_) | refine wp_gtr (fun _ => ?_) (fun _ => ?_) | refine wp_leq (fun _ => ?_) (fun _ => ?_) | refine wp_geq (fun _ => ?_) (fun _ => ?_) | refine wp_eql (fun _ => ?_) (fun _ => ?_) | refine wp_neq (fun _ => ?_) (fun _ => ?_) | refine wp_add64 (by omega) (by omega) ?_ | refine wp_sub64 (by omega) (by omega) ?_)
  all_goals (first | exact wp_ret ⟨rfl, (congrArg B (decide_eq_true (by omega))).symm, Cx.grows (by assumption)⟩ | exact wp_ret ⟨rfl, (congrArg B (decide_eq_false (by omega))).symm, Cx.grows (by assumption)⟩)
theorem rsoundT_ok {S : AH} {t : To} : wpC EM (.fn (.func 40) [] []) [.agg t.cs] S fun r S' => r = B (decide t.ok) ∧ Grows S S' := by
  refine wpC_fn (b := Tryz.a40) rfl rfl ?_
  have H : Cx S [] S [] [] := Cx.enter (by simp)
  unfold To.ok Tryz.a40 Tryz.a40x4 Tryz.a40x3 Tryz.a40x2 Tryz.a40x1 Tryz.a40x0
  repeat' (first | (first|refine zA ?_|refine zB rfl ?_|refine zC ?_|refine zD ?_|refine zE rfl ?_|refine zF ?_|refine zG ?_|refine zH ?_|refine zI ?_|refine zJ ?_|refine zK ?_|refine zL rfl ?_|refine zN rfl ?_) | refine wp_bind ?_ | refine wp_box (by assumption) rfl fun _ _ _ => ?_ | refine wp_tmpN (by assumption) rfl rfl rfl fun _ _ _ => ?_ | refine wp_ld (by assumption) (by repeat (first | exact List.Mem.head _ | apply List.Mem.tail)) rfl ?_ | refine wp_ldn (by assumption) (by repeat (first | exact List.Mem.head _ | apply List.Mem.tail)) rfl ?_ | refine wp_notT ?_ | refine wp_notF ?_ | (refine wp_ret ?_; show wp EM _ _ _) | refine wp_lss (fun _ => ?_) (fun _ => ?_) | refine wp_gtr (fun _ => ?_) (fun _ => ?_) | refine wp_leq (fun _ => ?_) (fun _ => ?_) | refine wp_geq (fun _ => ?_) (fun _ => ?_) | refine wp_eql (fun _ => ?_) (fun _ => ?_) | refine wp_neq (fun _ => ?_) (fun _ => ?_) | refine wp_add64 (by omega) (by omega) ?_ | refine wp_sub64 (by omega) (by omega) ?_)
  all_goals (first | exact wp_ret ⟨rfl, (congrArg B (decide_eq_true (by omega))).symm, Cx.grows (by assumption)⟩ | exact wp_ret ⟨rfl, (congrArg B (decide_eq_false (by omega))).symm, Cx.grows (by assumption)⟩)
def cellP (a : Int) : Prop := 0 ≤ a ∧ a < 4096
instance (a : Int) : Decidable (cellP a) := inferInstanceAs (Decidable (_ ∧ _))
theorem cell_ok {S : AH} {a : Int} : wpC EM (.fn (.func 42) [] []) [I a] S fun r S' => r = B (decide (cellP a)) ∧ Grows S S' := by
  refine wpC_fn (b := Tryz.a42) rfl rfl ?_
  have H : Cx S [] S [] [] := Cx.enter (by simp)
  unfold cellP Tryz.a42
  repeat' (first | (first|refine zA ?_|refine zB rfl ?_|refine zC ?_|refine zD ?_|refine zE rfl ?_|refine zF ?_|refine zG ?_|refine zH ?_|refine zI ?_|refine zJ ?_|refine zK ?_|refine zL rfl ?_|refine zN rfl ?_) | refine wp_bind ?_ | refine wp_box (by assumption) rfl fun _ _ _ => ?_ | refine wp_tmpN (by assumption) rfl rfl rfl fun _ _ _ => ?_ | refine wp_ld (by assumption) (by repeat (first | exact List.Mem.head _ | apply List.Mem.tail)) rfl ?_ | refine wp_ldn (by assumption) (by repeat (first | exact List.Mem.head _ | apply List.Mem.tail)) rfl ?_ | refine wp_notT ?_ | refine wp_notF ?_ | (refine wp_ret ?_; show wp EM _ _ _) | refine wp_lss (fun _ => ?_) (fun _ => ?_) | refine wp_gtr (fun _ => ?_) (fun _ => ?_) | refine wp_leq (fun _ => ?_) (fun _ => ?_) | refine wp_geq (fun _ => ?_) (fun _ => ?_) | refine wp_eql (fun _ => ?_) (fun _ => ?_) | refine wp_neq (fun _ => ?_) (fun _ => ?_) | refine wp_add64 (by omega) (by omega) ?_ | refine wp_sub64 (by omega) (by omega) ?_)
  all_goals (first | exact wp_ret ⟨rfl, (congrArg B (decide_eq_true (by omega))).symm, Cx.grows (by assumption)⟩ | exact wp_ret ⟨rfl, (congrArg B (decide_eq_false (by omega))).symm, Cx.grows (by assumption)⟩)
/-! ### rows of cells -/
theorem nodeCells_ok {S : AH} {h : Int} (h0 : 0 ≤ h) (h1 : h ≤ 4) : wpC EM (.fn (.func 123) [] []) [I h] S fun r S' => r = I (4 + h) ∧ Grows S S' := by
  refine wpC_fn (b := Tryz.a123) rfl rfl ?_
  unfold Tryz.a123
  exact wp_add64 (by omega) (by omega) (wp_ret ⟨rfl, rfl, Grows.refl _⟩)
theorem headCells_ok {S : AH} {h : Int} : wpC EM (.fn (.func 640) [] []) [I h] S fun r S' => r = I h ∧ Grows S S' := by
  refine wpC_fn (b := Tryz.a640) rfl rfl ?_
  unfold Tryz.a640
  exact wp_ret ⟨rfl, rfl, Grows.refl _⟩
theorem nodes_ok {S : AH} {t : To} : wpC EM (.fn (.func 102) [] []) [.agg t.cs] S fun r S' => r = .agg [I t.nd, I t.fsize, I t.ht] ∧ Grows S S' := by
  refine wpC_fn (b := Tryz.a102) rfl rfl ?_
  have H : Cx S [] S [] [] := Cx.enter (by simp)
  unfold Tryz.a102 Tryz.a102x1 Tryz.a102x0
  refine wp_fin ?_
  refine wp_box H rfl fun p S1 H => ?_
  refine wp_alloc H fun q S2 H => ?_
  repeat' (first | (first|refine zA ?_|refine zB rfl ?_|refine zC ?_|refine zD ?_|refine zE rfl ?_|refine zF ?_|refine zG ?_|refine zH ?_|refine zI ?_|refine zJ ?_|refine zK ?_|refine zL rfl ?_|refine zN rfl ?_) | refine wp_bind ?_ | refine wp_box (by assumption) rfl fun _ _ _ => ?_ | refine wp_tmpN (by assumption) rfl rfl rfl fun _ _ _ => ?_ | refine wp_ld (by assumption) (by repeat (first | exact List.Mem.head _ | apply List.Mem.tail)) rfl ?_ | refine wp_ldn (by assumption) (by repeat (first | exact List.Mem.head _ | apply List.Mem.tail)) rfl ?_ | refine wp_notT ?_ | refine wp_notF ?_ | (refine wp_ret ?_; show wp EM _ _ _) | refine wp_lss (fun _ => ?_) (fun _ => ?_) | refine wp_gtr (fun _ => ?_) (fun _ => ?_) | refine wp_leq (fun _ => ?_) (fun _ => ?_) | refine wp_geq (fun _ => ?_) (fun _ => ?_) | refine wp_eql (fun _ => ?_) (fun _ => ?_) | refine wp_neq (fun _ => ?_) (fun _ => ?_) | refine wp_add64 (by omega) (by omega) ?_ | refine wp_sub64 (by omega) (by omega) ?_)
  refine wp_op (v := .agg [I t.nd, I t.fsize, I t.ht]) rfl ?_
  refine wp_store H 0 (c := [I 0, I 0, I 0]) rfl rfl rfl (by simp) fun S3 H => ?_
  refine wp_ret ⟨.inr rfl, ?_⟩
  have H : Cx S [] S3 [.obj q (.row [I t.nd, I t.fsize, I t.ht])] [.pt p 0 t.cs] := H
  refine wp_loadoa (n := 3) H 0 rfl (by simp) ?_
  exact wp_ret ⟨rfl, rfl, H.grows⟩
theorem heads_ok {S : AH} {t : To} : wpC EM (.fn (.func 104) [] []) [.agg t.cs] S fun r S' => r = .agg [I t.hd, I 1, I t.ht] ∧ Grows S S' := by
  refine wpC_fn (b := Tryz.a104) rfl rfl ?_
  have H : Cx S [] S [] [] := Cx.enter (by simp)
  unfold Tryz.a104 Tryz.a104x0
  refine wp_fin ?_
  refine wp_box H rfl fun p S1 H => ?_
  refine wp_alloc H fun q S2 H => ?_
  repeat' (first | (first|refine zA ?_|refine zB rfl ?_|refine zC ?_|refine zD ?_|refine zE rfl ?_|refine zF ?_|refine zG ?_|refine zH ?_|refine zI ?_|refine zJ ?_|refine zK ?_|refine zL rfl ?_|refine zN rfl ?_) | refine wp_bind ?_ | refine wp_box (by assumption) rfl fun _ _ _ => ?_ | refine wp_tmpN (by assumption) rfl rfl rfl fun _ _ _ => ?_ | refine wp_ld (by assumption) (by repeat (first | exact List.Mem.head _ | apply List.Mem.tail)) rfl ?_ | refine wp_ldn (by assumption) (by repeat (first | exact List.Mem.head _ | apply List.Mem.tail)) rfl ?_ | refine wp_notT ?_ | refine wp_notF ?_ | (refine wp_ret ?_; show wp EM _ _ _) | refine wp_lss (fun _ => ?_) (fun _ => ?_) | refine wp_gtr (fun _ => ?_) (fun _ => ?_) | refine wp_leq (fun _ => ?_) (fun _ => ?_) | refine wp_geq (fun _ => ?_) (fun _ => ?_) | refine wp_eql (fun _ => ?_) (fun _ => ?_) | refine wp_neq (fun _ => ?_) (fun _ => ?_) | refine wp_add64 (by omega) (by omega) ?_ | refine wp_sub64 (by omega) (by omega) ?_)
  refine wp_op (v := .agg [I t.hd, I 1, I t.ht]) rfl ?_
  refine wp_store H 0 (c := [I 0, I 0, I 0]) rfl rfl rfl (by simp) fun S3 H => ?_
  refine wp_ret ⟨.inr rfl, ?_⟩
  have H : Cx S [] S3 [.obj q (.row [I t.hd, I 1, I t.ht])] [.pt p 0 t.cs] := H
  refine wp_loadoa (n := 3) H 0 rfl (by simp) ?_
  exact wp_ret ⟨rfl, rfl, H.grows⟩
end Go.Abs
namespace Go.Abs.Tsk
open Go.Proofs
set_option maxRecDepth 100000

structure Tk where
  kind : Int
  prio : Int
  every : Int
  first : Int
def Tk.cs (x : Tk) : List AV := [I x.kind, I x.prio, I x.every, I x.first]
def tks (l : List Tk) : List (List AV) := l.map Tk.cs
theorem tks_len (l : List Tk) : (tks l).length = l.length := List.length_map ..
theorem tks_get {l : List Tk} {i : Nat} (hi : i < l.length) : (tks l)[i]? = some (l[i].cs) := by simp [tks, hi]

/-- why a task may not be -/
def tone (x : Tk) : Int := if x.kind ≠ 1 ∧ x.kind ≠ 2 then 5 else
  if x.prio < 0 ∨ 254 < x.prio ∨ x.every < 0 ∨ (x.kind = 1 ∧ x.every < 1) ∨ 1099511627776 < x.every ∨ x.first < 0 ∨ 1099511627776 < x.first ∨ (x.kind = 2 ∧ x.first ≠ 0) then 3 else 0

set_option maxHeartbeats 4000000 in
theorem one_ok {S : AH} {x : Tk} : wpC EM (.fn (.func 106) [] []) [.agg x.cs] S fun r S' => r = I (tone x) ∧ Grows S S' := by
  refine wpC_fn (b := Tryz.a106) rfl rfl ?_
  have H : Cx S [] S [] [] := Cx.enter (by simp)
  unfold Tryz.a106
  refine wp_box H rfl fun b S1 H => ?_
  repeat' (first | (first|refine zA ?_|refine zB rfl ?_|refine zC ?_|refine zD ?_|refine zE rfl ?_|refine zF ?_|refine zG ?_|refine zH ?_|refine zI ?_|refine zJ ?_|refine zK ?_|refine zL rfl ?_|refine zN rfl ?_) | refine wp_bind ?_ | refine wp_load1 H (by repeat (first | exact List.Mem.head _ | apply List.Mem.tail)) rfl ?_ | (refine wp_ret ?_; show wp EM _ _ _) | refine wp_lss (fun _ => ?_) (fun _ => ?_) | refine wp_gtr (fun _ => ?_) (fun _ => ?_) | refine wp_leq (fun _ => ?_) (fun _ => ?_) | refine wp_geq (fun _ => ?_) (fun _ => ?_) | refine wp_eql (fun _ => ?_) (fun _ => ?_) | refine wp_neq (fun _ => ?_) (fun _ => ?_))
  all_goals first
    | exact wp_ret ⟨rfl, congrArg I (by unfold tone; split <;> (try split) <;> omega), H.grows⟩
set_option maxHeartbeats 4000000 in
theorem refOne_ok {S : AH} {x : Tk} : wpC EM (.fn (.func 96) [] []) [.agg x.cs] S fun r S' => r = I (tone x) ∧ Grows S S' := by
  refine wpC_fn (b := Tryz.a96) rfl rfl ?_
  have H : Cx S [] S [] [] := Cx.enter (by simp)
  unfold Tryz.a96
  refine wp_box H rfl fun b S1 H => ?_
  repeat' (first | (first|refine zA ?_|refine zB rfl ?_|refine zC ?_|refine zD ?_|refine zE rfl ?_|refine zF ?_|refine zG ?_|refine zH ?_|refine zI ?_|refine zJ ?_|refine zK ?_|refine zL rfl ?_|refine zN rfl ?_) | refine wp_bind ?_ | refine wp_load1 H (by repeat (first | exact List.Mem.head _ | apply List.Mem.tail)) rfl ?_ | (refine wp_ret ?_; show wp EM _ _ _) | refine wp_lss (fun _ => ?_) (fun _ => ?_) | refine wp_gtr (fun _ => ?_) (fun _ => ?_) | refine wp_leq (fun _ => ?_) (fun _ => ?_) | refine wp_geq (fun _ => ?_) (fun _ => ?_) | refine wp_eql (fun _ => ?_) (fun _ => ?_) | refine wp_neq (fun _ => ?_) (fun _ => ?_))
  all_goals first
    | exact wp_ret ⟨rfl, congrArg I (by unfold tone; split <;> (try split) <;> omega), H.grows⟩
end Go.Abs.Tsk
namespace Go.Abs.Tsk
open Go.Proofs
set_option maxRecDepth 100000
def tfirst : List Tk → Int
  | [] => 0
  | x :: l => if tone x = 0 then tfirst l else tone x
def tchk (l : List Tk) : Int := if 32 < l.length then 4 else tfirst l
theorem tfirst_drop {l : List Tk} {i : Nat} (hi : i < l.length) : tfirst (l.drop i) = if tone l[i] = 0 then tfirst (l.drop (i + 1)) else tone l[i] := by
  rw [List.drop_eq_getElem_cons hi]; rfl

theorem check_ok {S : AH} {v : AV} {l : List Tk} (hv : RoSl S v 4 (tks l)) : wpC EM (.fn (.func 49) [] []) [v] S fun r S' => r = I (tchk l) ∧ Grows S S' := by
  refine wpC_fn (b := Tryz.a49) rfl rfl ?_
  have H := Cx.ro1 hv
  unfold Tryz.a49
  refine wp_len H (by repeat (first | exact List.Mem.head _ | apply List.Mem.tail)) ?_
  rw [tks_len]
  unfold tchk
  refine wp_gtr (fun hlt => ?_) (fun hge => ?_)
  · repeat (first|refine zA ?_|refine zB rfl ?_|refine zC ?_|refine zD ?_|refine zE rfl ?_|refine zF ?_|refine zG ?_|refine zH ?_|refine zI ?_|refine zJ ?_|refine zK ?_|refine zL rfl ?_|refine zN rfl ?_)
    refine wp_ret ⟨rfl, ?_, H.grows⟩
    rw [if_pos (by omega)]; rfl
  · rw [if_neg (by omega)]
    repeat (first|refine zA ?_|refine zB rfl ?_|refine zC ?_|refine zD ?_|refine zE rfl ?_|refine zF ?_|refine zG ?_|refine zH ?_|refine zI ?_|refine zJ ?_|refine zK ?_|refine zL rfl ?_|refine zN rfl ?_)
    refine wp_len H (by repeat (first | exact List.Mem.head _ | apply List.Mem.tail)) ?_
    rw [tks_len]
    refine wp_bind (wp_loop (wpL_for l.length (fun i vs S1 => ∃ u : AV, vs = [I (i : Int), u] ∧ tfirst (l.drop i) = tfirst l ∧ Cx S [] S1 [] [.sl v 4 (tks l)]) ?_ ?_ ⟨_, rfl, rfl, H⟩))
    · rintro i vs S1 hlt ⟨u, rfl, hc, H⟩
      rw [tfirst_drop hlt] at hc
      refine wp_lss_t (by omega) ?_
      repeat (first|refine zA ?_|refine zB rfl ?_|refine zC ?_|refine zD ?_|refine zE rfl ?_|refine zF ?_|refine zG ?_|refine zH ?_|refine zI ?_|refine zJ ?_|refine zK ?_|refine zL rfl ?_|refine zN rfl ?_)
      refine wp_bind ?_
      refine wp_saddr (i := i) H (by repeat (first | exact List.Mem.head _ | apply List.Mem.tail)) (tks_get hlt) fun p off H => ?_
      refine wp_loada H (cs := l[i].cs) (by repeat (first | exact List.Mem.head _ | apply List.Mem.tail)) (Nat.le_of_ble_eq_true rfl) ?_
      refine wp_alloc H fun b S3 H => ?_
      refine wp_store H 0 rfl rfl rfl (Nat.le_of_ble_eq_true rfl) fun S4 H => ?_
      replace H : Cx S [] S4 [] [.pt b 0 l[i].cs, .pt p off l[i].cs, .sl v 4 (tks l)] := H.freeze (i := 0) (c := l[i].cs) rfl
      refine wp_loada H (cs := l[i].cs) (by repeat (first | exact List.Mem.head _ | apply List.Mem.tail)) (Nat.le_of_ble_eq_true rfl) ?_
      refine wp_callV H one_ok fun S5 H => ?_
      refine wp_neq (fun hne => ?_) (fun he => ?_)
      · rw [if_neg hne] at hc
        repeat (first|refine zA ?_|refine zB rfl ?_|refine zC ?_|refine zD ?_|refine zE rfl ?_|refine zF ?_|refine zG ?_|refine zH ?_|refine zI ?_|refine zJ ?_|refine zK ?_|refine zL rfl ?_|refine zN rfl ?_)
        exact wp_ret (.inr ⟨by simp, rfl, by rw [← hc]; rfl, H.grows⟩)
      · rw [if_pos he] at hc
        repeat (first|refine zA ?_|refine zB rfl ?_|refine zC ?_|refine zD ?_|refine zE rfl ?_|refine zF ?_|refine zG ?_|refine zH ?_|refine zI ?_|refine zJ ?_|refine zK ?_|refine zL rfl ?_|refine zN rfl ?_)
        refine wp_ret ?_
        show wp EM _ _ _
        exact wp_add64 (by omega) (by omega) (wp_ret (.inl ⟨rfl, _, rfl, hc, H.tl.tl⟩))
    · rintro vs S1 ⟨u, rfl, hc, H⟩
      refine wp_lss_f (by omega) ?_
      repeat (first|refine zA ?_|refine zB rfl ?_|refine zC ?_|refine zD ?_|refine zE rfl ?_|refine zF ?_|refine zG ?_|refine zH ?_|refine zI ?_|refine zJ ?_|refine zK ?_|refine zL rfl ?_|refine zN rfl ?_)
      refine wp_ret ⟨by simp, wp_ret ⟨rfl, ?_, H.grows⟩⟩
      rw [List.drop_length] at hc
      rw [← hc]; rfl
theorem refCheck_ok {S : AH} {v : AV} {l : List Tk} (hv : RoSl S v 4 (tks l)) : wpC EM (.fn (.func 41) [] []) [v] S fun r S' => r = I (tchk l) ∧ Grows S S' := by
  refine wpC_fn (b := Tryz.a41) rfl rfl ?_
  have H := Cx.ro1 hv
  unfold Tryz.a41
  refine wp_len H (by repeat (first | exact List.Mem.head _ | apply List.Mem.tail)) ?_
  rw [tks_len]
  unfold tchk
  refine wp_gtr (fun hlt => ?_) (fun hge => ?_)
  · repeat (first|refine zA ?_|refine zB rfl ?_|refine zC ?_|refine zD ?_|refine zE rfl ?_|refine zF ?_|refine zG ?_|refine zH ?_|refine zI ?_|refine zJ ?_|refine zK ?_|refine zL rfl ?_|refine zN rfl ?_)
    refine wp_ret ⟨rfl, ?_, H.grows⟩
    rw [if_pos (by omega)]; rfl
  · rw [if_neg (by omega)]
    repeat (first|refine zA ?_|refine zB rfl ?_|refine zC ?_|refine zD ?_|refine zE rfl ?_|refine zF ?_|refine zG ?_|refine zH ?_|refine zI ?_|refine zJ ?_|refine zK ?_|refine zL rfl ?_|refine zN rfl ?_)
    refine wp_bind (wp_loop (wpL_for l.length (fun i vs S1 => ∃ u : AV, vs = [I (i : Int), u] ∧ tfirst (l.drop i) = tfirst l ∧ Cx S [] S1 [] [.sl v 4 (tks l)]) ?_ ?_ ⟨_, rfl, rfl, H⟩))
    · rintro i vs S1 hlt ⟨u, rfl, hc, H⟩
      rw [tfirst_drop hlt] at hc
      refine wp_len H (by repeat (first | exact List.Mem.head _ | apply List.Mem.tail)) ?_
      rw [tks_len]
      refine wp_lss_t (by omega) ?_
      repeat (first|refine zA ?_|refine zB rfl ?_|refine zC ?_|refine zD ?_|refine zE rfl ?_|refine zF ?_|refine zG ?_|refine zH ?_|refine zI ?_|refine zJ ?_|refine zK ?_|refine zL rfl ?_|refine zN rfl ?_)
      refine wp_bind ?_
      refine wp_saddr (i := i) H (by repeat (first | exact List.Mem.head _ | apply List.Mem.tail)) (tks_get hlt) fun p off H => ?_
      refine wp_loada H (cs := l[i].cs) (by repeat (first | exact List.Mem.head _ | apply List.Mem.tail)) (Nat.le_of_ble_eq_true rfl) ?_
      refine wp_callV H refOne_ok fun S5 H => ?_
      refine wp_neq (fun hne => ?_) (fun he => ?_)
      · rw [if_neg hne] at hc
        repeat (first|refine zA ?_|refine zB rfl ?_|refine zC ?_|refine zD ?_|refine zE rfl ?_|refine zF ?_|refine zG ?_|refine zH ?_|refine zI ?_|refine zJ ?_|refine zK ?_|refine zL rfl ?_|refine zN rfl ?_)
        exact wp_ret (.inr ⟨by simp, rfl, by rw [← hc]; rfl, H.grows⟩)
      · rw [if_pos he] at hc
        repeat (first|refine zA ?_|refine zB rfl ?_|refine zC ?_|refine zD ?_|refine zE rfl ?_|refine zF ?_|refine zG ?_|refine zH ?_|refine zI ?_|refine zJ ?_|refine zK ?_|refine zL rfl ?_|refine zN rfl ?_)
        refine wp_ret ?_
        show wp EM _ _ _
        exact wp_add64 (by omega) (by omega) (wp_ret (.inl ⟨rfl, _, rfl, hc, H.tl⟩))
    · rintro vs S1 ⟨u, rfl, hc, H⟩
      refine wp_len H (by repeat (first | exact List.Mem.head _ | apply List.Mem.tail)) ?_
      rw [tks_len]
      refine wp_lss_f (by omega) ?_
      repeat (first|refine zA ?_|refine zB rfl ?_|refine zC ?_|refine zD ?_|refine zE rfl ?_|refine zF ?_|refine zG ?_|refine zH ?_|refine zI ?_|refine zJ ?_|refine zK ?_|refine zL rfl ?_|refine zN rfl ?_)
      refine wp_ret ⟨by simp, wp_ret ⟨rfl, ?_, H.grows⟩⟩
      rw [List.drop_length] at hc
      rw [← hc]; rfl

/-! times -/
def timed (x : Tk) : Bool := decide (x.kind = 1 ∧ tone x = 0)
structure TOk (f e : Int) : Prop where
  f0 : 0 ≤ f
  f1 : f ≤ 1099511627776
  e0 : 1 ≤ e
  e1 : e ≤ 1099511627776
theorem timed_ok {x : Tk} (h : timed x = true) : TOk x.first x.every := by
  unfold timed at h
  have h := of_decide_eq_true h
  obtain ⟨h1, h2⟩ := h
  unfold tone at h2
  rw [if_neg (by omega)] at h2
  split at h2
  · cases h2
  · exact ⟨by omega, by omega, by omega, by omega⟩
def cl (f e : Int) : AV := .agg [I f, I e]
def many (f e : Int) : Int := (1099511627776 - f) / e + 1
theorem many_bd {f e : Int} (h : TOk f e) : 1 ≤ many f e ∧ many f e ≤ 1099511627777 := by
  obtain ⟨h1, h2, h3, h4⟩ := h
  have a : 0 ≤ (1099511627776 - f) / e := Int.ediv_nonneg (by omega) (by omega)
  have b : (1099511627776 - f) / e ≤ 1099511627776 - f := Int.ediv_le_self _ (by omega)
  unfold many
  omega
/-- the number of the first time that is not below a moment -/
def num (f e now : Int) : Int := if now ≤ f then 0 else (now - f) / e + (if (now - f) % e = 0 then 0 else 1)
theorem num_ceil {f e now : Int} (he : 1 ≤ e) (hn : f < now) : num f e now = (now - f + e - 1) / e := by
  unfold num
  rw [if_neg (by omega)]
  have h1 := Int.emod_add_mul_ediv (now - f) e
  have h2 := Int.emod_nonneg (now - f) (by omega : e ≠ 0)
  have h3 := Int.emod_lt_of_pos (now - f) (by omega : 0 < e)
  generalize (now - f) % e = r at h1 h2 h3 ⊢
  generalize (now - f) / e = q at h1 ⊢
  symm
  split
  · rename_i hr
    have : now - f + e - 1 = (e - 1) + e * q := by rw [hr] at h1; omega
    rw [this, Int.add_mul_ediv_left _ _ (by omega), Int.ediv_eq_zero_of_lt (by omega) (by omega)]
    omega
  · have : now - f + e - 1 = (r - 1) + e * (q + 1) := by rw [Int.mul_add]; omega
    rw [this, Int.add_mul_ediv_left _ _ (by omega), Int.ediv_eq_zero_of_lt (by omega) (by omega)]
    omega
theorem num_bd {f e now : Int} (he : 1 ≤ e) : 0 ≤ num f e now ∧ (f < now → num f e now ≤ now - f) := by
  by_cases h : now ≤ f
  · unfold num; rw [if_pos h]; constructor <;> omega
  · rw [num_ceil he (by omega)]
    refine ⟨Int.ediv_nonneg (by omega) (by omega), fun _ => ?_⟩
    have : (now - f + e - 1) / e < now - f + 1 := Int.ediv_lt_of_lt_mul (by omega) (by
      have : (now - f + 1) * e = (now - f) * e + e := by rw [Int.add_mul]; omega
      have h2 : (now - f) * 1 ≤ (now - f) * e := Int.mul_le_mul_of_nonneg_left he (by omega)
      omega)
    omega
def since (f e now : Int) : Int := if now ≤ f then 0 else if 1099511627776 < now then many f e else min (many f e) (num f e now)
/-- behind the last moment there is none -/
theorem num_most {f e : Int} (h : TOk f e) : num f e (1099511627776 + 1) = many f e := by
  obtain ⟨h1, h2, h3, h4⟩ := h
  rw [num_ceil h3 (by omega)]
  unfold many
  have : 1099511627776 + 1 - f + e - 1 = (1099511627776 - f) + e * 1 := by omega
  rw [this, Int.add_mul_ediv_left _ _ (by omega)]
theorem since_eq {f e now : Int} (h : TOk f e) : since f e now = min (many f e) (num f e (min now (1099511627776 + 1))) := by
  have hm := num_most h
  have hb := many_bd h
  unfold since
  split
  · rename_i hn
    have : num f e (min now (1099511627776 + 1)) = 0 := by unfold num; rw [if_pos (by have := h.f1; omega)]
    rw [this]; omega
  · split
    · rw [show min now (1099511627776 + 1) = 1099511627776 + 1 by omega, hm]; omega
    · rw [show min now (1099511627776 + 1) = now by omega]
theorem since_bd {f e now : Int} (h : TOk f e) : 0 ≤ since f e now ∧ since f e now ≤ many f e := by
  have := many_bd h
  have := (num_bd (f := f) (now := min now (1099511627776 + 1)) h.e0).1
  rw [since_eq h]; omega
end Go.Abs.Tsk
namespace Go.Abs
open Go.Proofs
set_option maxRecDepth 100000
set_option linter.unusedVariables false
open Tsk (Tk tks tchk)
section
variable {M : Mach} {B0 S : AH} {W : List Nat} {own : List Own} {ro : List Fct} {Q : Post} {k : AV → AC} {kc : AC}
theorem wp_mul64 {a b : Int} (h1 : -9223372036854775808 ≤ a * b) (h2 : a * b ≤ 9223372036854775807) (h : wp M (k (I (a * b))) S Q) : wp M (.op (.bin .mul (I a) (I b)) k) S Q := wp_mul (wrap64 h1 h2) h
theorem wp_ck (H : Cx B0 W S own ro) {id o : Nat} {cs : List AV} {v : AV} (hm : Fct.pt id 0 cs ∈ ro) (hj : cs[o]? = some v) (hb : AV.beq v v = true) (h : wp M kc S Q) : wp M (.chk (.load 1 false (.ptr id o)) v kc) S Q := by
  have := wp_chk1 (M := M) (k := kc) (off := 0) (j := o) H hm hj hb h
  rwa [show Nat.add 0 o = o from Nat.zero_add o] at this
theorem wp_ckn (H : Cx B0 W S own ro) {id n : Nat} {cs l : List AV} (hm : Fct.pt id 0 cs ∈ ro) (hj : Nat.ble n cs.length = true) (hl : cs.take n = l) (hb : ∀ x ∈ l, AV.beq x x = true) (h : wp M kc S Q) : wp M (.chk (.load n true (.ptr id 0)) (.agg l) kc) S Q := by
  have hj := Nat.le_of_ble_eq_true hj
  obtain ⟨c, h1, h2, h3⟩ := pt_agg (j := 0) (H.rh _ hm) (by omega : 0 + n ≤ cs.length)
  refine wp_chk (v' := .agg l) ?_ (beq_agg hb) h
  show (match S.cells? id with | some c => mkPart true c 0 n | none => none) = _
  rw [h1]
  simp only
  rw [mkPart_agg (by omega)]
  rw [show 0 + 0 = 0 from rfl] at h3
  rw [h3, List.drop_zero, hl]
theorem wp_gchk_t {g : Bool} {o : AOp} {v : AV} (h : wp M (.chk o v kc) S Q) : wp M (.gchk (B g) g o v kc) S Q := by
  obtain ⟨t, vs, S', ⟨n0, h1⟩, h2⟩ := h
  exact ⟨t, vs, S', ⟨n0, fun n hn => by
    show runGchk M.P (B g) g o v _ S = _
    unfold runGchk
    rw [show gIs (B g) g = some true by cases g <;> rfl]
    exact h1 n hn⟩, h2⟩
/-- a new list of numbers -/
theorem wp_lits (H : Cx B0 W S own ro) {n : Nat} {ps : List (Nat × Nat × AV)} (l : List Int) (he : fillP (repZero [I 0] n) ps = some (l.map fun a => I a)) (hn : l.length = n)
    (h : ∀ v S1, Cx B0 W S1 own (.sl v 1 (ints l) :: ro) → wp M (k v) S1 Q) : wp M (.op (.bslice 1 n [I 0] ps) k) S Q := by
  refine wp_op (v := .sl S.next 0 n n) (S1 := S.new (.row (l.map fun a => I a))) ?_ (h _ _ (H.addNewRo (Grows.new S _) (φ := .sl (.sl S.next 0 n n) 1 (ints l)) ?_ ?_))
  · show nBslice 1 n [I 0] ps S = _
    unfold nBslice
    rw [he]
    have e : (Nat.beq (lenL (l.map fun a => I a)) (Nat.mul n 1) && Nat.beq (lenL [I 0]) 1) = true := by
      rw [lenL_eq, List.length_map, hn, show Nat.mul n 1 = n from Nat.mul_one n, Nat.beq_refl]; rfl
    simp only [e]
    rfl
  · refine .inr ⟨S.next, 0, l.map fun a => I a, .inl ⟨n, by rw [ints_len]; omega, by simp [hn], by rw [ints_len, hn]⟩, row_cells (get_new_same _ _), ?_, ?_⟩
    · rw [ints_len, List.drop_zero, List.take_of_length_le (by simp)]
      unfold ints
      clear he hn h
      induction l with
      | nil => rfl
      | cons a r ih => simp only [List.map_cons, List.flatten_cons, ih]; rfl
    · intro x hx
      obtain ⟨a, _, rfl⟩ := List.mem_map.1 hx
      rfl
  · intro id hid
    simp only [Fct.ids, vids, List.mem_singleton] at hid
    subst hid
    exact ⟨Nat.le_refl _, by simp [AH.new]⟩
end
theorem mul_bd {a b A C : Int} (h1 : 0 ≤ a) (h2 : a ≤ A) (h3 : 0 ≤ b) (h4 : b ≤ C) : 0 ≤ a * b ∧ a * b ≤ A * C :=
  ⟨Int.mul_nonneg h1 h3, Int.mul_le_mul h2 h4 h3 (by omega)⟩
/-! ### a cell of a node -/
theorem methNode {v : AV} : methodOf EM.P 189 v "coxswain/tower.cells" = some (123, v) := by kernel_rfl
def atN (a n h i p : Int) : Int := if i < 0 ∨ n ≤ i ∨ p < 0 ∨ 4 + h ≤ p then -1 else a + i * (4 + h) + p
theorem nodeAt_ok {S : AH} {a n h i p : Int} (h0 : 0 ≤ h) (h1 : h ≤ 4) (ha : 0 ≤ a) (ha2 : a < 4096) (hn : n ≤ 128) : wpC EM (.fn (.func 103) [] []) [.agg [I a, I n, I h], I i, I p] S fun r S' => r = I (atN a n h i p) ∧ Grows S S' := by
  refine wpC_fn (b := Tryz.a103) rfl rfl ?_
  have H : Cx S [] S [] [] := Cx.enter (by simp)
  unfold atN Tryz.a103 Tryz.a103x3 Tryz.a103x2 Tryz.a103x1 Tryz.a103x0
  repeat' (first | (first | (first|refine zA ?_|refine zB rfl ?_|refine zC ?_|refine zD ?_|refine zE rfl ?_|refine zF ?_|refine zG ?_|refine zH ?_|refine zI ?_|refine zJ ?_|refine zK ?_|refine zL rfl ?_|refine zN rfl ?_) | refine wp_bind ?_ | refine wp_box (by assumption) rfl fun _ _ _ => ?_ | refine wp_tmpN (by assumption) rfl rfl rfl fun _ _ _ => ?_ | refine wp_ld (by assumption) (by repeat (first | exact List.Mem.head _ | apply List.Mem.tail)) rfl ?_ | refine wp_ldn (by assumption) (by repeat (first | exact List.Mem.head _ | apply List.Mem.tail)) rfl ?_ | refine wp_notT ?_ | refine wp_notF ?_ | (refine wp_ret ?_; show wp EM _ _ _) | refine wp_lss (fun _ => ?_) (fun _ => ?_) | refine wp_gtr (fun _ => ?_) (fun _ => ?_) | refine wp_leq (fun _ => ?_) (fun _ => ?_) | refine wp_geq (fun _ => ?_) (fun _ => ?_) | refine wp_eql (fun _ => ?_) (fun _ => ?_) | refine wp_neq (fun _ => ?_) (fun _ => ?_) | refine wp_add64 (by omega) (by omega) ?_ | refine wp_sub64 (by omega) (by omega) ?_) | refine wp_callV (by assumption) (wpC_method methNode (nodeCells_ok h0 h1)) fun _ _ => ?_ | refine wp_ck (by assumption) (by repeat (first | exact List.Mem.head _ | apply List.Mem.tail)) rfl beq_num ?_)
  all_goals try (first | exact wp_ret ⟨rfl, by first | rw [if_pos (by omega)]; rfl | rw [if_neg (by omega)]; rfl, Cx.grows (by assumption)⟩)
  have hm := mul_bd (a := i) (b := 4 + h) (A := 128) (C := 8) (by omega) (by omega) (by omega) (by omega)
  refine wp_mul64 (by omega) (by omega) ?_
  refine wp_add64 (by omega) (by omega) ?_
  refine wp_add64 (by omega) (by omega) ?_
  exact wp_ret ⟨rfl, by rw [if_neg (by omega)]; rfl, Cx.grows (by assumption)⟩
theorem at0_ok {S : AH} {t : To} : wpC EM (.fn (.func 48) [] []) [.agg t.cs, I 0, I 0] S fun r S' => r = I (if t.ok then t.nd else -1) ∧ Grows S S' := by
  refine wpC_fn (b := Tryz.a48) rfl rfl ?_
  have H : Cx S [] S [] [] := Cx.enter (by simp)
  unfold Tryz.a48 Tryz.a48x4 Tryz.a48x3 Tryz.a48x2 Tryz.a48x1 Tryz.a48x0
  refine wp_box H rfl fun p S1 H => ?_
  refine wp_bind ?_
  refine wp_ldn H (by repeat (first | exact List.Mem.head _ | apply List.Mem.tail)) rfl ?_
  refine wp_callV H (sound_ok (t := t)) fun S2 H => ?_
  by_cases ht : t.ok
  · rw [decide_eq_true ht, if_pos ht]
    have h0 := ht
    unfold To.ok at ht
    refine wp_notT ?_
    repeat (first|refine zA ?_|refine zB rfl ?_|refine zC ?_|refine zD ?_|refine zE rfl ?_|refine zF ?_|refine zG ?_|refine zH ?_|refine zI ?_|refine zJ ?_|refine zK ?_|refine zL rfl ?_|refine zN rfl ?_)
    refine wp_neq_t (by omega) ?_
    repeat (first|refine zA ?_|refine zB rfl ?_|refine zC ?_|refine zD ?_|refine zE rfl ?_|refine zF ?_|refine zG ?_|refine zH ?_|refine zI ?_|refine zJ ?_|refine zK ?_|refine zL rfl ?_|refine zN rfl ?_)
    refine wp_ldn H (by repeat (first | exact List.Mem.head _ | apply List.Mem.tail)) rfl ?_
    refine wp_callV H (nodes_ok (t := t)) fun S3 H => ?_
    refine wp_callV H (nodeAt_ok (by omega) (by omega) (by omega) (by omega) (by omega)) fun S4 H => ?_
    refine wp_ret ⟨rfl, ?_, H.grows⟩
    unfold atN
    rw [if_neg (by omega)]
    have : t.nd + 0 * (4 + t.ht) + 0 = t.nd := by omega
    rw [this]; rfl
  · rw [decide_eq_false ht, if_neg ht]
    refine wp_notF ?_
    repeat (first|refine zA ?_|refine zB rfl ?_|refine zC ?_|refine zD ?_|refine zE rfl ?_|refine zF ?_|refine zG ?_|refine zH ?_|refine zI ?_|refine zJ ?_|refine zK ?_|refine zL rfl ?_|refine zN rfl ?_)
    exact wp_ret ⟨rfl, rfl, H.grows⟩
/-! ### executives -/
structure Ex where
  t : To
  gfirst : Int
  gmany : Int
  jst : Int
  jkeys : Int
  jtop : Int
  jlinks : Int
  jsize : Int
  mfirst : Int
  mcores : Int
  mroom : Int
  rruns : Int
  rflags : Int
  rcores : Int
  own : Int
  seq : Int
def Ex.cs (e : Ex) (v : AV) : List AV := [I e.t.nd, I e.t.hd, I e.t.ht, I e.t.ftop, I e.t.flinks, I e.t.fsize, I e.t.gens, I e.t.worn, I e.t.lim, I e.t.eat, I e.t.pins, I e.t.cores, I e.t.tops,
  I e.gfirst, I e.gmany, I e.jst, I e.jkeys, I e.jtop, I e.jlinks, I e.jsize, I e.mfirst, I e.mcores, I e.mroom, I e.rruns, I e.rflags, I e.rcores, I e.own, I e.seq, v]
def Ex.ok (e : Ex) (l : List Tk) : Prop := e.t.ok ∧ tchk l = 0 ∧ 0 < l.length ∧ e.gmany = l.length ∧ 1 ≤ e.t.cores ∧ e.t.cores ≤ 64 ∧ e.mcores = e.t.cores ∧ e.rcores = e.t.cores ∧ 1 ≤ e.jsize ∧ e.jsize ≤ 64 ∧ 1 ≤ e.mroom ∧ e.mroom ≤ 16 ∧
  cellP e.gfirst ∧ cellP e.jst ∧ cellP e.jkeys ∧ cellP e.jtop ∧ cellP e.jlinks ∧ cellP e.mfirst ∧ cellP e.rruns ∧ cellP e.rflags ∧ cellP e.own ∧ cellP e.seq
instance (e : Ex) (l : List Tk) : Decidable (e.ok l) := inferInstanceAs (Decidable (_ ∧ _))
def Ex.at10 (e : Ex) : List Int := [e.gfirst, e.jst, e.jkeys, e.jtop, e.jlinks, e.mfirst, e.rruns, e.rflags, e.own, e.seq]
theorem at10_all (e : Ex) : (∀ a ∈ e.at10, cellP a) ↔ (cellP e.gfirst ∧ cellP e.jst ∧ cellP e.jkeys ∧ cellP e.jtop ∧ cellP e.jlinks ∧ cellP e.mfirst ∧ cellP e.rruns ∧ cellP e.rflags ∧ cellP e.own ∧ cellP e.seq) := by
  simp [Ex.at10]
section
variable {B0 S : AH} {W : List Nat} {own : List Own} {ro : List Fct} {Q : Post} {k : AV → AC}
theorem slOk_one {S : AH} {v : AV} {es : Nat} {L : List (List AV)} (h : slOk S v es L) : odd v = false ∧ v.cells = [v] := by
  rcases h with ⟨rfl, _⟩ | ⟨id, off, c, (⟨_, _, _, rfl⟩ | ⟨_, _, _, rfl⟩), _⟩ <;> exact ⟨rfl, rfl⟩
set_option maxHeartbeats 4000000 in
theorem soundE_ok {v : AV} {e : Ex} {l : List Tk} (hv : Fct.sl v 4 (tks l) ∈ ro) (H : Cx B0 W S own ro) : wpC EM (.fn (.func 19) [] []) [.agg (e.cs v)] S fun r S' => r = B (decide (e.ok l)) ∧ Grows S S' := by
  refine wpC_fn (b := Tryz.a19) rfl rfl ?_
  have hv0 : RoSl S v 4 (tks l) := H.roSl hv
  clear H
  have H := Cx.ro1 hv0
  have hT := fun {S1 : AH} {own : List Own} {ro : List Fct} (H : Cx S [] S1 own ro) (hm : Fct.sl v 4 (tks l) ∈ ro) => Tsk.check_ok (l := l) (H.roSl hm)
  unfold Tryz.a19 Tryz.a19x20 Tryz.a19x19 Tryz.a19x18 Tryz.a19x17 Tryz.a19x16 Tryz.a19x15 Tryz.a19x14 Tryz.a19x13 Tryz.a19x12 Tryz.a19x11 Tryz.a19x10 Tryz.a19x9 Tryz.a19x8 Tryz.a19x7 Tryz.a19x6 Tryz.a19x5 Tryz.a19x4 Tryz.a19x3 Tryz.a19x2 Tryz.a19x1 Tryz.a19x0
  have bad : ∀ (S1 : AH), ¬ e.ok l → Grows S S1 → (Tag.ret = Tag.ret ∧ oneOf [B false] = B (decide (e.ok l)) ∧ Grows S S1) := fun S1 hn hg => ⟨rfl, by rw [decide_eq_false hn]; rfl, hg⟩
  refine wp_box H rfl fun p S1 H => ?_
  repeat (first|refine zA ?_|refine zB rfl ?_|refine zC ?_|refine zD ?_|refine zE rfl ?_|refine zF ?_|refine zG ?_|refine zH ?_|refine zI ?_|refine zJ ?_|refine zK ?_|refine zL rfl ?_|refine zN rfl ?_)
  refine wp_ld H (by repeat (first | exact List.Mem.head _ | apply List.Mem.tail)) rfl ?_
  repeat (first|refine zA ?_|refine zB rfl ?_|refine zC ?_|refine zD ?_|refine zE rfl ?_|refine zF ?_|refine zG ?_|refine zH ?_|refine zI ?_|refine zJ ?_|refine zK ?_|refine zL rfl ?_|refine zN rfl ?_)
  refine wp_ldn H (by repeat (first | exact List.Mem.head _ | apply List.Mem.tail)) rfl ?_
  refine wp_callV H (at0_ok (t := e.t)) fun S2 H => ?_
  by_cases ht : e.t.ok
  rotate_left
  · rw [if_neg ht]
    refine wp_lss_t (by omega) ?_
    repeat (first|refine zA ?_|refine zB rfl ?_|refine zC ?_|refine zD ?_|refine zE rfl ?_|refine zF ?_|refine zG ?_|refine zH ?_|refine zI ?_|refine zJ ?_|refine zK ?_|refine zL rfl ?_|refine zN rfl ?_)
    exact wp_ret (bad _ (fun h => ht h.1) H.grows)
  rw [if_pos ht]
  have ht0 := ht
  unfold To.ok at ht
  refine wp_lss_f (by omega) ?_
  repeat (first|refine zA ?_|refine zB rfl ?_|refine zC ?_|refine zD ?_|refine zE rfl ?_|refine zF ?_|refine zG ?_|refine zH ?_|refine zI ?_|refine zJ ?_|refine zK ?_|refine zL rfl ?_|refine zN rfl ?_)
  refine wp_ld H (by repeat (first | exact List.Mem.head _ | apply List.Mem.tail)) rfl ?_
  repeat (first|refine zA ?_|refine zB rfl ?_|refine zC ?_|refine zD ?_|refine zE rfl ?_|refine zF ?_|refine zG ?_|refine zH ?_|refine zI ?_|refine zJ ?_|refine zK ?_|refine zL rfl ?_|refine zN rfl ?_)
  refine wp_callV H (hT H (by repeat (first | exact List.Mem.head _ | apply List.Mem.tail))) fun S3 H => ?_
  repeat (first|refine zA ?_|refine zB rfl ?_|refine zC ?_|refine zD ?_|refine zE rfl ?_|refine zF ?_|refine zG ?_|refine zH ?_|refine zI ?_|refine zJ ?_|refine zK ?_|refine zL rfl ?_|refine zN rfl ?_)
  refine wp_neq (fun hne => ?_) (fun hz => ?_)
  · repeat (first|refine zA ?_|refine zB rfl ?_|refine zC ?_|refine zD ?_|refine zE rfl ?_|refine zF ?_|refine zG ?_|refine zH ?_|refine zI ?_|refine zJ ?_|refine zK ?_|refine zL rfl ?_|refine zN rfl ?_)
    exact wp_ret (bad _ (fun h => hne h.2.1) H.grows)
  repeat (first|refine zA ?_|refine zB rfl ?_|refine zC ?_|refine zD ?_|refine zE rfl ?_|refine zF ?_|refine zG ?_|refine zH ?_|refine zI ?_|refine zJ ?_|refine zK ?_|refine zL rfl ?_|refine zN rfl ?_)
  refine wp_ld H (by repeat (first | exact List.Mem.head _ | apply List.Mem.tail)) rfl ?_
  repeat (first|refine zA ?_|refine zB rfl ?_|refine zC ?_|refine zD ?_|refine zE rfl ?_|refine zF ?_|refine zG ?_|refine zH ?_|refine zI ?_|refine zJ ?_|refine zK ?_|refine zL rfl ?_|refine zN rfl ?_)
  refine wp_len H (by repeat (first | exact List.Mem.head _ | apply List.Mem.tail)) ?_
  rw [Tsk.tks_len]
  repeat (first|refine zA ?_|refine zB rfl ?_|refine zC ?_|refine zD ?_|refine zE rfl ?_|refine zF ?_|refine zG ?_|refine zH ?_|refine zI ?_|refine zJ ?_|refine zK ?_|refine zL rfl ?_|refine zN rfl ?_)
  refine wp_eql (fun h0 => ?_) (fun hpos => ?_)
  · repeat (first|refine zA ?_|refine zB rfl ?_|refine zC ?_|refine zD ?_|refine zE rfl ?_|refine zF ?_|refine zG ?_|refine zH ?_|refine zI ?_|refine zJ ?_|refine zK ?_|refine zL rfl ?_|refine zN rfl ?_)
    exact wp_ret (bad _ (fun h => by have := h.2.2.1; omega) H.grows)
  repeat (first|refine zA ?_|refine zB rfl ?_|refine zC ?_|refine zD ?_|refine zE rfl ?_|refine zF ?_|refine zG ?_|refine zH ?_|refine zI ?_|refine zJ ?_|refine zK ?_|refine zL rfl ?_|refine zN rfl ?_)
  refine wp_ld H (by repeat (first | exact List.Mem.head _ | apply List.Mem.tail)) rfl ?_
  repeat (first|refine zA ?_|refine zB rfl ?_|refine zC ?_|refine zD ?_|refine zE rfl ?_|refine zF ?_|refine zG ?_|refine zH ?_|refine zI ?_|refine zJ ?_|refine zK ?_|refine zL rfl ?_|refine zN rfl ?_)
  refine wp_ld H (by repeat (first | exact List.Mem.head _ | apply List.Mem.tail)) rfl ?_
  repeat (first|refine zA ?_|refine zB rfl ?_|refine zC ?_|refine zD ?_|refine zE rfl ?_|refine zF ?_|refine zG ?_|refine zH ?_|refine zI ?_|refine zJ ?_|refine zK ?_|refine zL rfl ?_|refine zN rfl ?_)
  refine wp_len H (by repeat (first | exact List.Mem.head _ | apply List.Mem.tail)) ?_
  rw [Tsk.tks_len]
  have fin : ∀ (S1 : AH) , ¬ (e.gmany = l.length ∧ 1 ≤ e.t.cores ∧ e.t.cores ≤ 64 ∧ e.mcores = e.t.cores ∧ e.rcores = e.t.cores ∧ 1 ≤ e.jsize ∧ e.jsize ≤ 64 ∧ 1 ≤ e.mroom ∧ e.mroom ≤ 16) → Grows S S1 → (Tag.ret = Tag.ret ∧ oneOf [B false] = B (decide (e.ok l)) ∧ Grows S S1) :=
    fun S1 hn hg => bad S1 (fun h => hn (by unfold Ex.ok at h; omega)) hg
  repeat' (first | exact wp_ret (fin _ (by omega) (Cx.grows (by assumption))) | (refine wp_lits (by assumption) e.at10 rfl rfl fun vl S4 H => ?_) | (first|refine zA ?_|refine zB rfl ?_|refine zC ?_|refine zD ?_|refine zE rfl ?_|refine zF ?_|refine zG ?_|refine zH ?_|refine zI ?_|refine zJ ?_|refine zK ?_|refine zL rfl ?_|refine zN rfl ?_) | refine wp_ld (by assumption) (by repeat (first | exact List.Mem.head _ | apply List.Mem.tail)) rfl ?_ | refine wp_lss (fun _ => ?_) (fun _ => ?_) | refine wp_gtr (fun _ => ?_) (fun _ => ?_) | refine wp_neq (fun _ => ?_) (fun _ => ?_))
  refine wp_len H (by repeat (first | exact List.Mem.head _ | apply List.Mem.tail)) ?_
  rw [ints_len]
  refine wp_bind (wp_loop (wpL_inv (fun m vs S1 => ∃ (i : Nat), vs = [I (i : Int), B false] ∧ i ≤ 10 ∧ m = 10 - i ∧ (∀ a ∈ e.at10.take i, cellP a) ∧ Cx S [] S1 [] [.sl vl 1 (ints e.at10), .pt p 0 (AV.agg (e.cs v)).cells, .sl v 4 (tks l)]) ?_ 10 ⟨0, rfl, by omega, by omega, by simp, H⟩))
  clear H
  rintro m vs S5 ⟨i, rfl, hi, rfl, hall, H⟩
  have hl10 : e.at10.length = 10 := rfl
  refine wp_lss (fun hlt => ?_) (fun hge => ?_)
  · have hlt : i < e.at10.length := by rw [hl10] at hlt ⊢; omega
    repeat (first|refine zA ?_|refine zB rfl ?_|refine zC ?_|refine zD ?_|refine zE rfl ?_|refine zF ?_|refine zG ?_|refine zH ?_|refine zI ?_|refine zJ ?_|refine zK ?_|refine zL rfl ?_|refine zN rfl ?_)
    refine wp_bind ?_
    refine wp_saddr (i := i) (x := [I e.at10[i]]) H (by repeat (first | exact List.Mem.head _ | apply List.Mem.tail)) (by simp [ints, hlt]) fun q1 o1 H1 => ?_
    refine wp_load0 H1 (by repeat (first | exact List.Mem.head _ | apply List.Mem.tail)) rfl ?_
    replace H := H1.tl
    have out : ¬ cellP e.at10[i] → Tag.ret = Tag.ret ∧ oneOf [B false] = B (decide (e.ok l)) ∧ Grows S S5 := fun hn => bad _ (fun h => hn ((at10_all e).2 (by unfold Ex.ok at h; simp only [h, and_self]) _ (List.getElem_mem hlt))) H.grows
    refine wp_lss (fun h0 => ?_) (fun h0 => ?_)
    · repeat (first|refine zA ?_|refine zB rfl ?_|refine zC ?_|refine zD ?_|refine zE rfl ?_|refine zF ?_|refine zG ?_|refine zH ?_|refine zI ?_|refine zJ ?_|refine zK ?_|refine zL rfl ?_|refine zN rfl ?_)
      refine wp_ret (.inr ⟨by simp, out (fun h => by unfold cellP at h; omega)⟩)
    repeat (first|refine zA ?_|refine zB rfl ?_|refine zC ?_|refine zD ?_|refine zE rfl ?_|refine zF ?_|refine zG ?_|refine zH ?_|refine zI ?_|refine zJ ?_|refine zK ?_|refine zL rfl ?_|refine zN rfl ?_)
    refine wp_geq (fun h1 => ?_) (fun h1 => ?_)
    · repeat (first|refine zA ?_|refine zB rfl ?_|refine zC ?_|refine zD ?_|refine zE rfl ?_|refine zF ?_|refine zG ?_|refine zH ?_|refine zI ?_|refine zJ ?_|refine zK ?_|refine zL rfl ?_|refine zN rfl ?_)
      refine wp_ret (.inr ⟨by simp, out (fun h => by unfold cellP at h; omega)⟩)
    repeat (first|refine zA ?_|refine zB rfl ?_|refine zC ?_|refine zD ?_|refine zE rfl ?_|refine zF ?_|refine zG ?_|refine zH ?_|refine zI ?_|refine zJ ?_|refine zK ?_|refine zL rfl ?_|refine zN rfl ?_)
    refine wp_ret ?_
    show wp EM _ _ _
    refine wp_add64 (by omega) (by omega) (wp_ret (.inl ⟨rfl, 10 - (i + 1), by omega, i + 1, rfl, by omega, rfl, ?_, H⟩))
    rw [List.take_succ_eq_append_getElem hlt]
    intro a ha
    rcases List.mem_append.1 ha with ha | ha
    · exact hall a ha
    · rw [List.mem_singleton.1 ha]; exact ⟨h0, h1⟩
  · repeat (first|refine zA ?_|refine zB rfl ?_|refine zC ?_|refine zD ?_|refine zE rfl ?_|refine zF ?_|refine zG ?_|refine zH ?_|refine zI ?_|refine zJ ?_|refine zK ?_|refine zL rfl ?_|refine zN rfl ?_)
    refine wp_ret (.inr ⟨by simp, ?_⟩)
    show wp EM _ _ _
    have : i = 10 := by rw [hl10] at hge; omega
    subst this
    rw [List.take_of_length_le (by rw [hl10]; omega)] at hall
    refine wp_ret ⟨rfl, ?_, H.grows⟩
    have := (at10_all e).1 hall
    rw [decide_eq_true (show e.ok l by unfold Ex.ok; refine ⟨ht0, by omega, by omega, by omega, by omega, by omega, by omega, by omega, by omega, by omega, by omega, by omega, this⟩)]
    rfl
set_option maxHeartbeats 4000000 in
theorem rsoundE_ok {v : AV} {e : Ex} {l : List Tk} (hv : Fct.sl v 4 (tks l) ∈ ro) (H : Cx B0 W S own ro) : wpC EM (.fn (.func 15) [] []) [.agg (e.cs v)] S fun r S' => r = B (decide (e.ok l)) ∧ Grows S S' := by
  refine wpC_fn (b := Tryz.a15) rfl rfl ?_
  have hv0 : RoSl S v 4 (tks l) := H.roSl hv
  clear H
  have H := Cx.ro1 hv0
  have hT := fun {S1 : AH} {own : List Own} {ro : List Fct} (H : Cx S [] S1 own ro) (hm : Fct.sl v 4 (tks l) ∈ ro) => Tsk.refCheck_ok (l := l) (H.roSl hm)
  unfold Tryz.a15 Tryz.a15x19 Tryz.a15x18 Tryz.a15x17 Tryz.a15x16 Tryz.a15x15 Tryz.a15x14 Tryz.a15x13 Tryz.a15x12 Tryz.a15x11 Tryz.a15x10 Tryz.a15x9 Tryz.a15x8 Tryz.a15x7 Tryz.a15x6 Tryz.a15x5 Tryz.a15x4 Tryz.a15x3 Tryz.a15x2 Tryz.a15x1 Tryz.a15x0
  have bad : ∀ (S1 : AH), ¬ e.ok l → Grows S S1 → (Tag.ret = Tag.ret ∧ oneOf [B false] = B (decide (e.ok l)) ∧ Grows S S1) := fun S1 hn hg => ⟨rfl, by rw [decide_eq_false hn]; rfl, hg⟩
  refine wp_box H rfl fun p S1 H => ?_
  repeat (first|refine zA ?_|refine zB rfl ?_|refine zC ?_|refine zD ?_|refine zE rfl ?_|refine zF ?_|refine zG ?_|refine zH ?_|refine zI ?_|refine zJ ?_|refine zK ?_|refine zL rfl ?_|refine zN rfl ?_)
  refine wp_ld H (by repeat (first | exact List.Mem.head _ | apply List.Mem.tail)) rfl ?_
  repeat (first|refine zA ?_|refine zB rfl ?_|refine zC ?_|refine zD ?_|refine zE rfl ?_|refine zF ?_|refine zG ?_|refine zH ?_|refine zI ?_|refine zJ ?_|refine zK ?_|refine zL rfl ?_|refine zN rfl ?_)
  refine wp_ldn H (by repeat (first | exact List.Mem.head _ | apply List.Mem.tail)) rfl ?_
  refine wp_callV H (rsoundT_ok (t := e.t)) fun S2 H => ?_
  by_cases ht : e.t.ok
  rotate_left
  · rw [decide_eq_false ht]
    refine wp_notF ?_
    repeat (first|refine zA ?_|refine zB rfl ?_|refine zC ?_|refine zD ?_|refine zE rfl ?_|refine zF ?_|refine zG ?_|refine zH ?_|refine zI ?_|refine zJ ?_|refine zK ?_|refine zL rfl ?_|refine zN rfl ?_)
    exact wp_ret (bad _ (fun h => ht h.1) H.grows)
  rw [decide_eq_true ht]
  have ht0 := ht
  unfold To.ok at ht
  refine wp_notT ?_
  repeat (first|refine zA ?_|refine zB rfl ?_|refine zC ?_|refine zD ?_|refine zE rfl ?_|refine zF ?_|refine zG ?_|refine zH ?_|refine zI ?_|refine zJ ?_|refine zK ?_|refine zL rfl ?_|refine zN rfl ?_)
  refine wp_ld H (by repeat (first | exact List.Mem.head _ | apply List.Mem.tail)) rfl ?_
  repeat (first|refine zA ?_|refine zB rfl ?_|refine zC ?_|refine zD ?_|refine zE rfl ?_|refine zF ?_|refine zG ?_|refine zH ?_|refine zI ?_|refine zJ ?_|refine zK ?_|refine zL rfl ?_|refine zN rfl ?_)
  refine wp_callV H (hT H (by repeat (first | exact List.Mem.head _ | apply List.Mem.tail))) fun S3 H => ?_
  repeat (first|refine zA ?_|refine zB rfl ?_|refine zC ?_|refine zD ?_|refine zE rfl ?_|refine zF ?_|refine zG ?_|refine zH ?_|refine zI ?_|refine zJ ?_|refine zK ?_|refine zL rfl ?_|refine zN rfl ?_)
  refine wp_neq (fun hne => ?_) (fun hz => ?_)
  · repeat (first|refine zA ?_|refine zB rfl ?_|refine zC ?_|refine zD ?_|refine zE rfl ?_|refine zF ?_|refine zG ?_|refine zH ?_|refine zI ?_|refine zJ ?_|refine zK ?_|refine zL rfl ?_|refine zN rfl ?_)
    exact wp_ret (bad _ (fun h => hne h.2.1) H.grows)
  repeat (first|refine zA ?_|refine zB rfl ?_|refine zC ?_|refine zD ?_|refine zE rfl ?_|refine zF ?_|refine zG ?_|refine zH ?_|refine zI ?_|refine zJ ?_|refine zK ?_|refine zL rfl ?_|refine zN rfl ?_)
  refine wp_ld H (by repeat (first | exact List.Mem.head _ | apply List.Mem.tail)) rfl ?_
  repeat (first|refine zA ?_|refine zB rfl ?_|refine zC ?_|refine zD ?_|refine zE rfl ?_|refine zF ?_|refine zG ?_|refine zH ?_|refine zI ?_|refine zJ ?_|refine zK ?_|refine zL rfl ?_|refine zN rfl ?_)
  refine wp_len H (by repeat (first | exact List.Mem.head _ | apply List.Mem.tail)) ?_
  rw [Tsk.tks_len]
  repeat (first|refine zA ?_|refine zB rfl ?_|refine zC ?_|refine zD ?_|refine zE rfl ?_|refine zF ?_|refine zG ?_|refine zH ?_|refine zI ?_|refine zJ ?_|refine zK ?_|refine zL rfl ?_|refine zN rfl ?_)
  refine wp_eql (fun h0 => ?_) (fun hpos => ?_)
  · repeat (first|refine zA ?_|refine zB rfl ?_|refine zC ?_|refine zD ?_|refine zE rfl ?_|refine zF ?_|refine zG ?_|refine zH ?_|refine zI ?_|refine zJ ?_|refine zK ?_|refine zL rfl ?_|refine zN rfl ?_)
    exact wp_ret (bad _ (fun h => by have := h.2.2.1; omega) H.grows)
  repeat (first|refine zA ?_|refine zB rfl ?_|refine zC ?_|refine zD ?_|refine zE rfl ?_|refine zF ?_|refine zG ?_|refine zH ?_|refine zI ?_|refine zJ ?_|refine zK ?_|refine zL rfl ?_|refine zN rfl ?_)
  refine wp_ld H (by repeat (first | exact List.Mem.head _ | apply List.Mem.tail)) rfl ?_
  repeat (first|refine zA ?_|refine zB rfl ?_|refine zC ?_|refine zD ?_|refine zE rfl ?_|refine zF ?_|refine zG ?_|refine zH ?_|refine zI ?_|refine zJ ?_|refine zK ?_|refine zL rfl ?_|refine zN rfl ?_)
  refine wp_ld H (by repeat (first | exact List.Mem.head _ | apply List.Mem.tail)) rfl ?_
  repeat (first|refine zA ?_|refine zB rfl ?_|refine zC ?_|refine zD ?_|refine zE rfl ?_|refine zF ?_|refine zG ?_|refine zH ?_|refine zI ?_|refine zJ ?_|refine zK ?_|refine zL rfl ?_|refine zN rfl ?_)
  refine wp_len H (by repeat (first | exact List.Mem.head _ | apply List.Mem.tail)) ?_
  rw [Tsk.tks_len]
  have hmem : ∀ {P : Prop}, (e.ok l → P) → ¬ P → ¬ e.ok l := fun h hn he => hn (h he)
  have fin : ∀ (S1 : AH) , ¬ (e.gmany = l.length ∧ 1 ≤ e.t.cores ∧ e.t.cores ≤ 64 ∧ e.mcores = e.t.cores ∧ e.rcores = e.t.cores ∧ 1 ≤ e.jsize ∧ e.jsize ≤ 64 ∧ 1 ≤ e.mroom ∧ e.mroom ≤ 16) → Grows S S1 → (Tag.ret = Tag.ret ∧ oneOf [B false] = B (decide (e.ok l)) ∧ Grows S S1) :=
    fun S1 hn hg => bad S1 (fun h => hn (by unfold Ex.ok at h; omega)) hg
  have hcell : ∀ {a : Int} {K : AV → AC} {S1 : AH} {own : List Own} {ro : List Fct} {Q : Post}, a ∈ e.at10 → Cx S [] S1 own ro → (∀ S2, Cx S [] S2 own ro → cellP a → wp EM (K (B true)) S2 Q) → (∀ S2, Cx S [] S2 own ro → ¬ e.ok l → wp EM (K (B false)) S2 Q) → wp EM (.call (.fn (.func 42) [] []) [I a] K) S1 Q := by
    intro a K S1 own ro Q ha H h1 h2
    refine wp_callV H cell_ok fun S2 H => ?_
    by_cases hc : cellP a
    · rw [decide_eq_true hc]; exact h1 _ H hc
    · rw [decide_eq_false hc]; exact h2 _ H fun h => hc ((at10_all e).2 (by unfold Ex.ok at h; simp only [h, and_self]) _ ha)
  repeat' (first | exact wp_ret (fin _ (by omega) (Cx.grows (by assumption))) | exact wp_ret (bad _ (by assumption) (Cx.grows (by assumption))) | exact wp_ret ⟨rfl, (congrArg B (decide_eq_true (by unfold Ex.ok; exact ⟨ht0, by omega, by omega, by omega, by omega, by omega, by omega, by omega, by omega, by omega, by omega, by omega, by assumption, by assumption, by assumption, by assumption, by assumption, by assumption, by assumption, by assumption, by assumption, by assumption⟩))).symm, Cx.grows (by assumption)⟩ | (first|refine zA ?_|refine zB rfl ?_|refine zC ?_|refine zD ?_|refine zE rfl ?_|refine zF ?_|refine zG ?_|refine zH ?_|refine zI ?_|refine zJ ?_|refine zK ?_|refine zL rfl ?_|refine zN rfl ?_) | refine wp_notT ?_ | refine wp_notF ?_ | refine wp_ld (by assumption) (by repeat (first | exact List.Mem.head _ | apply List.Mem.tail)) rfl ?_ | refine hcell (by simp [Ex.at10]) (by assumption) (fun _ _ _ => ?_) (fun _ _ _ => ?_) | refine wp_lss (fun _ => ?_) (fun _ => ?_) | refine wp_gtr (fun _ => ?_) (fun _ => ?_) | refine wp_neq (fun _ => ?_) (fun _ => ?_))
end
end Go.Abs
