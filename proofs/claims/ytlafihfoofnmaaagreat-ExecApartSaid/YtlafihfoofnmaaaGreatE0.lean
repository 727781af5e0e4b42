/- functions of this cut: what they compute, in the abstract machine. Conditions: stated in each theorem -/
import Derived.Test.YtlafihfoofnmaaaGreatAd
import Derived.Test.YtlafihfoofnmaaaGreatT
set_option linter.unusedVariables false
set_option linter.unusedSimpArgs false
namespace Go.Abs
section
variable {M : Mach} {S : AH} {Q : Post} {k : AV → AC}
theorem zA {g : Bool} {o : AOp} (h : wp M (.op o k) S Q) : wp M (.gop (B g) g o k) S Q := wp_gop_t h
theorem zB {g g' : Bool} {o : AOp} (hg : g' = !g) (h : wp M (k uv) S Q) : wp M (.gop (B g) g' o k) S Q := wp_gop_f hg h
theorem zC {g' : Bool} {o : AOp} (h : wp M (k uv) S Q) : wp M (.gop uv g' o k) S Q := wp_gop_u h
theorem zD {g : Bool} {f : AV} {args : List AV} (h : wp M (.call f args k) S Q) : wp M (.gcall (B g) g f args k) S Q := wp_gcall_t h
theorem zE {g g' : Bool} {f : AV} {args : List AV} (hg : g' = !g) (h : wp M (k uv) S Q) : wp M (.gcall (B g) g' f args k) S Q := wp_gcall_f hg h
theorem zF {g' : Bool} {f : AV} {args : List AV} (h : wp M (k uv) S Q) : wp M (.gcall uv g' f args k) S Q := wp_gcall_u h
theorem zG {x y : AC} (h : wp M x S Q) : wp M (.ite (B true) x y) S Q := wp_ite_t h
theorem zH {x y : AC} (h : wp M y S Q) : wp M (.ite (B false) x y) S Q := wp_ite_f h
theorem zI {id off f : Nat} (h : wp M (k (.ptr id (Nat.add off f))) S Q) : wp M (.op (.faddr f (.ptr id off)) k) S Q := wp_faddr h
theorem zJ {id off : Nat} (h : wp M (k (.ptr id off)) S Q) : wp M (.op (.nilchk (.ptr id off)) k) S Q := wp_nilchk h
theorem zK {x : AV} (h : wp M (k x) S Q) : wp M (.op (.mv x) k) S Q := wp_op rfl h
theorem zL {c a b v : AV} (he : pPick c a b = some v) (h : wp M (k v) S Q) : wp M (.op (.pick c a b) k) S Q := wp_op (by show pur (pPick c a b) S = _; rw [he]; rfl) h
theorem zN {i : Nat} {x v : AV} (he : pExtract i x = some v) (h : wp M (k v) S Q) : wp M (.op (.extract i x) k) S Q := wp_op (by show pur (pExtract i x) S = _; rw [he]; rfl) h
end
end Go.Abs
namespace Go.Abs
inductive Zz (M : Mach) : AC → AH → Post → Prop
  | a {g : Bool} {o : AOp} {k : AV → AC} {S : AH} {Q : Post} (h : Zz M (.op o k) S Q) : Zz M (.gop (B g) g o k) S Q
  | b {g : Bool} {o : AOp} {k : AV → AC} {S : AH} {Q : Post} (h : Zz M (k uv) S Q) : Zz M (.gop (B g) (!g) o k) S Q
  | c {g : Bool} {o : AOp} {k : AV → AC} {S : AH} {Q : Post} (h : Zz M (k uv) S Q) : Zz M (.gop uv g o k) S Q
  | d {g : Bool} {f : AV} {l : List AV} {k : AV → AC} {S : AH} {Q : Post} (h : Zz M (.call f l k) S Q) : Zz M (.gcall (B g) g f l k) S Q
  | e {g : Bool} {f : AV} {l : List AV} {k : AV → AC} {S : AH} {Q : Post} (h : Zz M (k uv) S Q) : Zz M (.gcall (B g) (!g) f l k) S Q
  | f {g : Bool} {f : AV} {l : List AV} {k : AV → AC} {S : AH} {Q : Post} (h : Zz M (k uv) S Q) : Zz M (.gcall uv g f l k) S Q
  | g {x y : AC} {S : AH} {Q : Post} (h : Zz M x S Q) : Zz M (.ite (B true) x y) S Q
  | h {x y : AC} {S : AH} {Q : Post} (h : Zz M y S Q) : Zz M (.ite (B false) x y) S Q
  | i {n o f : Nat} {k : AV → AC} {S : AH} {Q : Post} (h : Zz M (k (.ptr n (Nat.add o f))) S Q) : Zz M (.op (.faddr f (.ptr n o)) k) S Q
  | j {n o : Nat} {k : AV → AC} {S : AH} {Q : Post} (h : Zz M (k (.ptr n o)) S Q) : Zz M (.op (.nilchk (.ptr n o)) k) S Q
  | k {x : AV} {k : AV → AC} {S : AH} {Q : Post} (h : Zz M (k x) S Q) : Zz M (.op (.mv x) k) S Q
  | l {x y : AV} {k : AV → AC} {S : AH} {Q : Post} (h : Zz M (k x) S Q) : Zz M (.op (.pick (B true) x y) k) S Q
  | m {x y : AV} {k : AV → AC} {S : AH} {Q : Post} (h : Zz M (k y) S Q) : Zz M (.op (.pick (B false) x y) k) S Q
  | n {x : AV} {l : List AV} {k : AV → AC} {S : AH} {Q : Post} (h : Zz M (k x) S Q) : Zz M (.op (.extract 0 (.tup (x :: l))) k) S Q
  | o {x y : AV} {l : List AV} {k : AV → AC} {S : AH} {Q : Post} (h : Zz M (k y) S Q) : Zz M (.op (.extract 1 (.tup (x :: y :: l))) k) S Q
  | p {x y z : AV} {l : List AV} {k : AV → AC} {S : AH} {Q : Post} (h : Zz M (k z) S Q) : Zz M (.op (.extract 2 (.tup (x :: y :: z :: l))) k) S Q
  | z {x : AC} {S : AH} {Q : Post} (h : True → wp M x S Q) : Zz M x S Q
theorem zz {M : Mach} {x : AC} {S : AH} {Q : Post} (h : Zz M x S Q) : wp M x S Q := by
  induction h with
  | a h ih => exact wp_gop_t ih
  | b h ih => exact wp_gop_f rfl ih
  | c h ih => exact wp_gop_u ih
  | d h ih => exact wp_gcall_t ih
  | e h ih => exact wp_gcall_f rfl ih
  | f h ih => exact wp_gcall_u ih
  | g h ih => exact wp_ite_t ih
  | h h ih => exact wp_ite_f ih
  | i h ih => exact wp_faddr ih
  | j h ih => exact wp_nilchk ih
  | k h ih => exact wp_op rfl ih
  | l h ih => exact wp_op rfl ih
  | m h ih => exact wp_op rfl ih
  | n h ih => exact wp_op rfl ih
  | o h ih => exact wp_op rfl ih
  | p h ih => exact wp_op rfl ih
  | z h => exact h trivial
end Go.Abs
namespace Go.Abs
set_option linter.unusedVariables false
/-! ### where a timer stands in a wheel: plain numbers -/
/-! ### digits -/
end Go.Abs
namespace Go.Abs
set_option linter.unusedVariables false
section
variable {M : Mach} {B0 S : AH} {W : List Nat} {own : List Own} {ro : List Fct} {Q : Post} {k : AV → AC}

/-! ### one's own things in another order -/
/-! ### functions that are known without a body -/
end
end Go.Abs
namespace Go.Abs
set_option linter.unusedVariables false
/-! ### maps: an entry is taken out -/
theorem list_set_self {α : Type} {l : List α} {n : Nat} {x : α} (h : l[n]? = some x) : l.set n x = l := by
  apply List.ext_getElem?
  intro j
  rw [List.getElem?_set]
  split
  · next e =>
    subst e
    obtain ⟨h1, h2⟩ := List.getElem?_eq_some_iff.1 h
    rw [if_pos h1, h]
  · rfl
section
variable {M : Mach} {B0 S : AH} {W : List Nat} {own : List Own} {ro : List Fct} {Q : Post} {k : AV → AC}
/-! ### a slice of one's own is cut: what is behind is cleared -/
end
end Go.Abs
namespace Go.Abs
open Go.Proofs
set_option maxRecDepth 100000
set_option linter.unusedVariables false
noncomputable def EM : Mach := ⟨Tryz.prog, Tryz.tbl, ⟨knV [(4, .bool true)], noKn.x⟩⟩

section
variable {M : Mach} {B0 S : AH} {W : List Nat} {own : List Own} {ro : List Fct} {Q : Post} {k : AV → AC} {kc : AC}
/-! ### loads of what is known, by a whole offset -/
theorem wp_ld (H : Cx B0 W S own ro) {id o : Nat} {cs : List AV} {v : AV} (hm : Fct.pt id 0 cs ∈ ro) (hj : cs[o]? = some v) (h : wp M (k v) S Q) : wp M (.op (.load 1 false (.ptr id o)) k) S Q := by
  have := wp_load1 (M := M) (k := k) (off := 0) (j := o) H hm hj h
  rwa [show Nat.add 0 o = o from Nat.zero_add o] at this
theorem wp_ldn (H : Cx B0 W S own ro) {id o n : Nat} {cs : List AV} (hm : Fct.pt id 0 cs ∈ ro) (hj : Nat.ble (o + n) cs.length = true) (h : wp M (k (.agg ((cs.drop o).take n))) S Q) : wp M (.op (.load n true (.ptr id o)) k) S Q := by
  have := wp_loadn (M := M) (k := k) (off := 0) (j := o) H hm (Nat.le_of_ble_eq_true hj) h
  rwa [show Nat.add 0 o = o from Nat.zero_add o] at this
theorem wp_tmpN (H : Cx B0 W S own ro) {z : List AV} {n : Nat} {v : AV} (ho : odd v = false) (hz : z.length = n) (hn : v.cells.length = n) (h : ∀ id S1, Cx B0 W S1 own (.pt id 0 v.cells :: ro) → wp M (k (.ptr id 0)) S1 Q) :
    wp M (.op (.alloc z) fun p => .op (.store n p v) fun _ => k p) S Q := by
  refine wp_alloc H fun id S1 H1 => ?_
  refine wp_store H1 0 (c := z) rfl ho hn (by omega) fun S2 H2 => ?_
  have e : setRange z 0 v.cells = v.cells := by
    rw [setRange_eq, List.take_zero, List.nil_append, Nat.zero_add, List.drop_eq_nil_of_le (by omega), List.append_nil]
  have H2 : Cx B0 W S2 (.obj id (.row (setRange z 0 v.cells)) :: own) ro := H2
  rw [e] at H2
  exact h id S2 (H2.freeze (i := 0) rfl)
theorem wp_notT (h : wp M (k (B false)) S Q) : wp M (.op (.un .not (B true)) k) S Q := wp_op (v := B false) rfl h
theorem wp_notF (h : wp M (k (B true)) S Q) : wp M (.op (.un .not (B false)) k) S Q := wp_op (v := B true) rfl h
theorem wp_not {b : Bool} (h : wp M (k (B (!b))) S Q) : wp M (.op (.un .not (B b)) k) S Q := wp_op (v := B (!b)) rfl h
end
/-! ### where an executive lies -/
structure To where
  nd : Int
  hd : Int
  ht : Int
  ftop : Int
  flinks : Int
  fsize : Int
  gens : Int
  worn : Int
  lim : Int
  eat : Int
  pins : Int
  cores : Int
  tops : Int
def To.cs (t : To) : List AV := [I t.nd, I t.hd, I t.ht, I t.ftop, I t.flinks, I t.fsize, I t.gens, I t.worn, I t.lim, I t.eat, I t.pins, I t.cores, I t.tops]
def To.ok (t : To) : Prop := 1 ≤ t.ht ∧ t.ht ≤ 4 ∧ 1 ≤ t.fsize ∧ t.fsize ≤ 128 ∧ 0 ≤ t.nd ∧ t.nd < 4096 ∧ 0 ≤ t.hd ∧ t.hd < 4096
instance (t : To) : Decidable t.ok := inferInstanceAs (Decidable (_ ∧ _))
theorem sound_ok {S : AH} {t : To} : wpC EM (.fn (.func 57) [] []) [.agg t.cs] S fun r S' => r = B (decide t.ok) ∧ Grows S S' := by
  refine wpC_fn (b := Tryz.a57) rfl rfl ?_
  have H : Cx S [] S [] [] := Cx.enter (by simp)
  unfold To.ok Tryz.a57 Tryz.a57x4 Tryz.a57x3 Tryz.a57x2 Tryz.a57x1 Tryz.a57x0
  repeat' (first | (first|refine zA ?_|refine zB rfl ?_|refine zC ?_|refine zD ?_|refine zE rfl ?_|refine zF ?_|refine zG ?_|refine zH ?_|refine zI ?_|refine zJ ?_|refine zK ?_|refine zL rfl ?_|refine zN rfl ?_) | refine wp_bind ?_ | refine wp_box (by assumption) rfl fun _ _ _ => ?_ | refine wp_tmpN (by assumption) rfl rfl rfl fun _ _ _ => ?_ | refine wp_ld (by assumption) (by repeat (first | exact List.Mem.head _ | apply List.Mem.tail)) rfl ?_ | refine wp_ldn (by assumption) (by repeat (first | exact List.Mem.head _ | apply List.Mem.tail)) rfl ?_ | refine wp_notT ?_ | refine wp_notF ?_ | (refine wp_ret ?_; show wp EM _ _ _) | refine wp_lss (fun _ => ?_) (fun _ => ?_) | refine wp_gtr (fun _ => ?_) (fun _ => ?_) | refine wp_leq (fun _ => ?_) (fun _ => ?_) | refine wp_geq (fun _ => ?_) (fun _ => ?_) | refine wp_eql (fun _ => ?_) (fun _ => ?_) | refine wp_neq (fun _ => ?_) (fun _ => ?_) | refine wp_add64 (by omega) (by omega) ?_ | refine wp_sub64 (by omega) (by omega) ?_)
  all_goals (first | exact wp_ret ⟨rfl, (congrArg B (decide_eq_true (by omega))).symm, Cx.grows (by assumption)⟩ | exact wp_ret ⟨rfl, (congrArg B (decide_eq_false (by omega))).symm, Cx.grows (by assumption)⟩)
def cellP (a : Int) : Prop := 0 ≤ a ∧ a < 4096
instance (a : Int) : Decidable (cellP a) := inferInstanceAs (Decidable (_ ∧ _))
/-! ### rows of cells -/
theorem nodeCells_ok {S : AH} {h : Int} (h0 : 0 ≤ h) (h1 : h ≤ 4) : wpC EM (.fn (.func 64) [] []) [I h] S fun r S' => r = I (4 + h) ∧ Grows S S' := by
  refine wpC_fn (b := Tryz.a64) rfl rfl ?_
  unfold Tryz.a64
  exact wp_add64 (by omega) (by omega) (wp_ret ⟨rfl, rfl, Grows.refl _⟩)
theorem headCells_ok {S : AH} {h : Int} : wpC EM (.fn (.func 413) [] []) [I h] S fun r S' => r = I h ∧ Grows S S' := by
  refine wpC_fn (b := Tryz.a413) rfl rfl ?_
  unfold Tryz.a413
  exact wp_ret ⟨rfl, rfl, Grows.refl _⟩
theorem nodes_ok {S : AH} {t : To} : wpC EM (.fn (.func 58) [] []) [.agg t.cs] S fun r S' => r = .agg [I t.nd, I t.fsize, I t.ht] ∧ Grows S S' := by
  refine wpC_fn (b := Tryz.a58) rfl rfl ?_
  have H : Cx S [] S [] [] := Cx.enter (by simp)
  unfold Tryz.a58 Tryz.a58x1 Tryz.a58x0
  refine wp_fin ?_
  refine wp_box H rfl fun p S1 H => ?_
  refine wp_alloc H fun q S2 H => ?_
  repeat' (first | (first|refine zA ?_|refine zB rfl ?_|refine zC ?_|refine zD ?_|refine zE rfl ?_|refine zF ?_|refine zG ?_|refine zH ?_|refine zI ?_|refine zJ ?_|refine zK ?_|refine zL rfl ?_|refine zN rfl ?_) | refine wp_bind ?_ | refine wp_box (by assumption) rfl fun _ _ _ => ?_ | refine wp_tmpN (by assumption) rfl rfl rfl fun _ _ _ => ?_ | refine wp_ld (by assumption) (by repeat (first | exact List.Mem.head _ | apply List.Mem.tail)) rfl ?_ | refine wp_ldn (by assumption) (by repeat (first | exact List.Mem.head _ | apply List.Mem.tail)) rfl ?_ | refine wp_notT ?_ | refine wp_notF ?_ | (refine wp_ret ?_; show wp EM _ _ _) | refine wp_lss (fun _ => ?_) (fun _ => ?_) | refine wp_gtr (fun _ => ?_) (fun _ => ?_) | refine wp_leq (fun _ => ?_) (fun _ => ?_) | refine wp_geq (fun _ => ?_) (fun _ => ?_) | refine wp_eql (fun _ => ?_) (fun _ => ?_) | refine wp_neq (fun _ => ?_) (fun _ => ?_) | refine wp_add64 (by omega) (by omega) ?_ | refine wp_sub64 (by omega) (by omega) ?_)
  refine wp_op (v := .agg [I t.nd, I t.fsize, I t.ht]) rfl ?_
  refine wp_store H 0 (c := [I 0, I 0, I 0]) rfl rfl rfl (by simp) fun S3 H => ?_
  refine wp_ret ⟨.inr rfl, ?_⟩
  have H : Cx S [] S3 [.obj q (.row [I t.nd, I t.fsize, I t.ht])] [.pt p 0 t.cs] := H
  refine wp_loadoa (n := 3) H 0 rfl (by simp) ?_
  exact wp_ret ⟨rfl, rfl, H.grows⟩
theorem heads_ok {S : AH} {t : To} : wpC EM (.fn (.func 60) [] []) [.agg t.cs] S fun r S' => r = .agg [I t.hd, I 1, I t.ht] ∧ Grows S S' := by
  refine wpC_fn (b := Tryz.a60) rfl rfl ?_
  have H : Cx S [] S [] [] := Cx.enter (by simp)
  unfold Tryz.a60 Tryz.a60x0
  refine wp_fin ?_
  refine wp_box H rfl fun p S1 H => ?_
  refine wp_alloc H fun q S2 H => ?_
  repeat' (first | (first|refine zA ?_|refine zB rfl ?_|refine zC ?_|refine zD ?_|refine zE rfl ?_|refine zF ?_|refine zG ?_|refine zH ?_|refine zI ?_|refine zJ ?_|refine zK ?_|refine zL rfl ?_|refine zN rfl ?_) | refine wp_bind ?_ | refine wp_box (by assumption) rfl fun _ _ _ => ?_ | refine wp_tmpN (by assumption) rfl rfl rfl fun _ _ _ => ?_ | refine wp_ld (by assumption) (by repeat (first | exact List.Mem.head _ | apply List.Mem.tail)) rfl ?_ | refine wp_ldn (by assumption) (by repeat (first | exact List.Mem.head _ | apply List.Mem.tail)) rfl ?_ | refine wp_notT ?_ | refine wp_notF ?_ | (refine wp_ret ?_; show wp EM _ _ _) | refine wp_lss (fun _ => ?_) (fun _ => ?_) | refine wp_gtr (fun _ => ?_) (fun _ => ?_) | refine wp_leq (fun _ => ?_) (fun _ => ?_) | refine wp_geq (fun _ => ?_) (fun _ => ?_) | refine wp_eql (fun _ => ?_) (fun _ => ?_) | refine wp_neq (fun _ => ?_) (fun _ => ?_) | refine wp_add64 (by omega) (by omega) ?_ | refine wp_sub64 (by omega) (by omega) ?_)
  refine wp_op (v := .agg [I t.hd, I 1, I t.ht]) rfl ?_
  refine wp_store H 0 (c := [I 0, I 0, I 0]) rfl rfl rfl (by simp) fun S3 H => ?_
  refine wp_ret ⟨.inr rfl, ?_⟩
  have H : Cx S [] S3 [.obj q (.row [I t.hd, I 1, I t.ht])] [.pt p 0 t.cs] := H
  refine wp_loadoa (n := 3) H 0 rfl (by simp) ?_
  exact wp_ret ⟨rfl, rfl, H.grows⟩
end Go.Abs
namespace Go.Abs.Tsk
open Go.Proofs
set_option maxRecDepth 100000

structure Tk where
  kind : Int
  prio : Int
  every : Int
  first : Int
def Tk.cs (x : Tk) : List AV := [I x.kind, I x.prio, I x.every, I x.first]
def tks (l : List Tk) : List (List AV) := l.map Tk.cs
theorem tks_len (l : List Tk) : (tks l).length = l.length := List.length_map ..
theorem tks_get {l : List Tk} {i : Nat} (hi : i < l.length) : (tks l)[i]? = some (l[i].cs) := by simp [tks, hi]

def tone (x : Tk) : Int := if x.kind ≠ 1 ∧ x.kind ≠ 2 then 5 else
  if x.prio < 0 ∨ 254 < x.prio ∨ x.every < 0 ∨ (x.kind = 1 ∧ x.every < 1) ∨ 1099511627776 < x.every ∨ x.first < 0 ∨ 1099511627776 < x.first ∨ (x.kind = 2 ∧ x.first ≠ 0) then 3 else 0

set_option maxHeartbeats 4000000 in
theorem one_ok {S : AH} {x : Tk} : wpC EM (.fn (.func 56) [] []) [.agg x.cs] S fun r S' => r = I (tone x) ∧ Grows S S' := by
  refine wpC_fn (b := Tryz.a56) rfl rfl ?_
  have H : Cx S [] S [] [] := Cx.enter (by simp)
  unfold Tryz.a56
  refine wp_box H rfl fun b S1 H => ?_
  repeat' (first | (first|refine zA ?_|refine zB rfl ?_|refine zC ?_|refine zD ?_|refine zE rfl ?_|refine zF ?_|refine zG ?_|refine zH ?_|refine zI ?_|refine zJ ?_|refine zK ?_|refine zL rfl ?_|refine zN rfl ?_) | refine wp_bind ?_ | refine wp_load1 H (by repeat (first | exact List.Mem.head _ | apply List.Mem.tail)) rfl ?_ | (refine wp_ret ?_; show wp EM _ _ _) | refine wp_lss (fun _ => ?_) (fun _ => ?_) | refine wp_gtr (fun _ => ?_) (fun _ => ?_) | refine wp_leq (fun _ => ?_) (fun _ => ?_) | refine wp_geq (fun _ => ?_) (fun _ => ?_) | refine wp_eql (fun _ => ?_) (fun _ => ?_) | refine wp_neq (fun _ => ?_) (fun _ => ?_))
  all_goals first
    | exact wp_ret ⟨rfl, congrArg I (by unfold tone; split <;> (try split) <;> omega), H.grows⟩
end Go.Abs.Tsk
namespace Go.Abs.Tsk
open Go.Proofs
set_option maxRecDepth 100000
def tfirst : List Tk → Int
  | [] => 0
  | x :: l => if tone x = 0 then tfirst l else tone x
def tchk (l : List Tk) : Int := if 32 < l.length then 4 else tfirst l
theorem tfirst_drop {l : List Tk} {i : Nat} (hi : i < l.length) : tfirst (l.drop i) = if tone l[i] = 0 then tfirst (l.drop (i + 1)) else tone l[i] := by
  rw [List.drop_eq_getElem_cons hi]; rfl

theorem check_ok {S : AH} {v : AV} {l : List Tk} (hv : RoSl S v 4 (tks l)) : wpC EM (.fn (.func 26) [] []) [v] S fun r S' => r = I (tchk l) ∧ Grows S S' := by
  refine wpC_fn (b := Tryz.a26) rfl rfl ?_
  have H := Cx.ro1 hv
  unfold Tryz.a26
  refine wp_len H (by repeat (first | exact List.Mem.head _ | apply List.Mem.tail)) ?_
  rw [tks_len]
  unfold tchk
  refine wp_gtr (fun hlt => ?_) (fun hge => ?_)
  · try(refine zz ?_;(repeat constructor);intro _)
    refine wp_ret ⟨rfl, ?_, H.grows⟩
    rw [if_pos (by omega)]; rfl
  · rw [if_neg (by omega)]
    try(refine zz ?_;(repeat constructor);intro _)
    refine wp_len H (by repeat (first | exact List.Mem.head _ | apply List.Mem.tail)) ?_
    rw [tks_len]
    refine wp_bind (wp_loop (wpL_for l.length (fun i vs S1 => ∃ u : AV, vs = [I (i : Int), u] ∧ tfirst (l.drop i) = tfirst l ∧ Cx S [] S1 [] [.sl v 4 (tks l)]) ?_ ?_ ⟨_, rfl, rfl, H⟩))
    · rintro i vs S1 hlt ⟨u, rfl, hc, H⟩
      rw [tfirst_drop hlt] at hc
      refine wp_lss_t (by omega) ?_
      try(refine zz ?_;(repeat constructor);intro _)
      refine wp_bind ?_
      refine wp_saddr (i := i) H (by repeat (first | exact List.Mem.head _ | apply List.Mem.tail)) (tks_get hlt) fun p off H => ?_
      refine wp_loada H (cs := l[i].cs) (by repeat (first | exact List.Mem.head _ | apply List.Mem.tail)) (Nat.le_of_ble_eq_true rfl) ?_
      refine wp_alloc H fun b S3 H => ?_
      refine wp_store H 0 rfl rfl rfl (Nat.le_of_ble_eq_true rfl) fun S4 H => ?_
      replace H : Cx S [] S4 [] [.pt b 0 l[i].cs, .pt p off l[i].cs, .sl v 4 (tks l)] := H.freeze (i := 0) (c := l[i].cs) rfl
      refine wp_loada H (cs := l[i].cs) (by repeat (first | exact List.Mem.head _ | apply List.Mem.tail)) (Nat.le_of_ble_eq_true rfl) ?_
      refine wp_callV H one_ok fun S5 H => ?_
      refine wp_neq (fun hne => ?_) (fun he => ?_)
      · rw [if_neg hne] at hc
        try(refine zz ?_;(repeat constructor);intro _)
        exact wp_ret (.inr ⟨by simp, rfl, by rw [← hc]; rfl, H.grows⟩)
      · rw [if_pos he] at hc
        try(refine zz ?_;(repeat constructor);intro _)
        refine wp_ret ?_
        show wp EM _ _ _
        exact wp_add64 (by omega) (by omega) (wp_ret (.inl ⟨rfl, _, rfl, hc, H.tl.tl⟩))
    · rintro vs S1 ⟨u, rfl, hc, H⟩
      refine wp_lss_f (by omega) ?_
      try(refine zz ?_;(repeat constructor);intro _)
      refine wp_ret ⟨by simp, wp_ret ⟨rfl, ?_, H.grows⟩⟩
      rw [List.drop_length] at hc
      rw [← hc]; rfl
/-! times -/
def cl (f e : Int) : AV := .agg [I f, I e]
def many (f e : Int) : Int := (1099511627776 - f) / e + 1
end Go.Abs.Tsk
namespace Go.Abs
open Go.Proofs
set_option maxRecDepth 100000
set_option linter.unusedVariables false
open Tsk (Tk tks tchk)
section
variable {M : Mach} {B0 S : AH} {W : List Nat} {own : List Own} {ro : List Fct} {Q : Post} {k : AV → AC} {kc : AC}
theorem wp_mul64 {a b : Int} (h1 : -9223372036854775808 ≤ a * b) (h2 : a * b ≤ 9223372036854775807) (h : wp M (k (I (a * b))) S Q) : wp M (.op (.bin .mul (I a) (I b)) k) S Q := wp_mul (wrap64 h1 h2) h
theorem wp_ck (H : Cx B0 W S own ro) {id o : Nat} {cs : List AV} {v : AV} (hm : Fct.pt id 0 cs ∈ ro) (hj : cs[o]? = some v) (hb : AV.beq v v = true) (h : wp M kc S Q) : wp M (.chk (.load 1 false (.ptr id o)) v kc) S Q := by
  have := wp_chk1 (M := M) (k := kc) (off := 0) (j := o) H hm hj hb h
  rwa [show Nat.add 0 o = o from Nat.zero_add o] at this
theorem wp_ckn (H : Cx B0 W S own ro) {id n : Nat} {cs l : List AV} (hm : Fct.pt id 0 cs ∈ ro) (hj : Nat.ble n cs.length = true) (hl : cs.take n = l) (hb : ∀ x ∈ l, AV.beq x x = true) (h : wp M kc S Q) : wp M (.chk (.load n true (.ptr id 0)) (.agg l) kc) S Q := by
  have hj := Nat.le_of_ble_eq_true hj
  obtain ⟨c, h1, h2, h3⟩ := pt_agg (j := 0) (H.rh _ hm) (by omega : 0 + n ≤ cs.length)
  refine wp_chk (v' := .agg l) ?_ (beq_agg hb) h
  show (match S.cells? id with | some c => mkPart true c 0 n | none => none) = _
  rw [h1]
  simp only
  rw [mkPart_agg (by omega)]
  rw [show 0 + 0 = 0 from rfl] at h3
  rw [h3, List.drop_zero, hl]
theorem wp_gchk_t {g : Bool} {o : AOp} {v : AV} (h : wp M (.chk o v kc) S Q) : wp M (.gchk (B g) g o v kc) S Q := by
  obtain ⟨t, vs, S', ⟨n0, h1⟩, h2⟩ := h
  exact ⟨t, vs, S', ⟨n0, fun n hn => by
    show runGchk M.P (B g) g o v _ S = _
    unfold runGchk
    rw [show gIs (B g) g = some true by cases g <;> rfl]
    exact h1 n hn⟩, h2⟩
theorem wp_lits (H : Cx B0 W S own ro) {n : Nat} {ps : List (Nat × Nat × AV)} (l : List Int) (he : fillP (repZero [I 0] n) ps = some (l.map fun a => I a)) (hn : l.length = n)
    (h : ∀ v S1, Cx B0 W S1 own (.sl v 1 (ints l) :: ro) → wp M (k v) S1 Q) : wp M (.op (.bslice 1 n [I 0] ps) k) S Q := by
  refine wp_op (v := .sl S.next 0 n n) (S1 := S.new (.row (l.map fun a => I a))) ?_ (h _ _ (H.addNewRo (Grows.new S _) (φ := .sl (.sl S.next 0 n n) 1 (ints l)) ?_ ?_))
  · show nBslice 1 n [I 0] ps S = _
    unfold nBslice
    rw [he]
    have e : (Nat.beq (lenL (l.map fun a => I a)) (Nat.mul n 1) && Nat.beq (lenL [I 0]) 1) = true := by
      rw [lenL_eq, List.length_map, hn, show Nat.mul n 1 = n from Nat.mul_one n, Nat.beq_refl]; rfl
    simp only [e]
    rfl
  · refine .inr ⟨S.next, 0, l.map fun a => I a, .inl ⟨n, by rw [ints_len]; omega, by simp [hn], by rw [ints_len, hn]⟩, row_cells (get_new_same _ _), ?_, ?_⟩
    · rw [ints_len, List.drop_zero, List.take_of_length_le (by simp)]
      unfold ints
      clear he hn h
      induction l with
      | nil => rfl
      | cons a r ih => simp only [List.map_cons, List.flatten_cons, ih]; rfl
    · intro x hx
      obtain ⟨a, _, rfl⟩ := List.mem_map.1 hx
      rfl
  · intro id hid
    simp only [Fct.ids, vids, List.mem_singleton] at hid
    subst hid
    exact ⟨Nat.le_refl _, by simp [AH.new]⟩
end
theorem mul_bd {a b A C : Int} (h1 : 0 ≤ a) (h2 : a ≤ A) (h3 : 0 ≤ b) (h4 : b ≤ C) : 0 ≤ a * b ∧ a * b ≤ A * C :=
  ⟨Int.mul_nonneg h1 h3, Int.mul_le_mul h2 h4 h3 (by omega)⟩
/-! ### a cell of a node -/
theorem methNode {v : AV} : methodOf EM.P 132 v "coxswain/tower.cells" = some (64, v) := by kernel_rfl
def atN (a n h i p : Int) : Int := if i < 0 ∨ n ≤ i ∨ p < 0 ∨ 4 + h ≤ p then -1 else a + i * (4 + h) + p
theorem nodeAt_ok {S : AH} {a n h i p : Int} (h0 : 0 ≤ h) (h1 : h ≤ 4) (ha : 0 ≤ a) (ha2 : a < 4096) (hn : n ≤ 128) : wpC EM (.fn (.func 59) [] []) [.agg [I a, I n, I h], I i, I p] S fun r S' => r = I (atN a n h i p) ∧ Grows S S' := by
  refine wpC_fn (b := Tryz.a59) rfl rfl ?_
  have H : Cx S [] S [] [] := Cx.enter (by simp)
  unfold atN Tryz.a59 Tryz.a59x3 Tryz.a59x2 Tryz.a59x1 Tryz.a59x0
  repeat' (first | (first | (first|refine zA ?_|refine zB rfl ?_|refine zC ?_|refine zD ?_|refine zE rfl ?_|refine zF ?_|refine zG ?_|refine zH ?_|refine zI ?_|refine zJ ?_|refine zK ?_|refine zL rfl ?_|refine zN rfl ?_) | refine wp_bind ?_ | refine wp_box (by assumption) rfl fun _ _ _ => ?_ | refine wp_tmpN (by assumption) rfl rfl rfl fun _ _ _ => ?_ | refine wp_ld (by assumption) (by repeat (first | exact List.Mem.head _ | apply List.Mem.tail)) rfl ?_ | refine wp_ldn (by assumption) (by repeat (first | exact List.Mem.head _ | apply List.Mem.tail)) rfl ?_ | refine wp_notT ?_ | refine wp_notF ?_ | (refine wp_ret ?_; show wp EM _ _ _) | refine wp_lss (fun _ => ?_) (fun _ => ?_) | refine wp_gtr (fun _ => ?_) (fun _ => ?_) | refine wp_leq (fun _ => ?_) (fun _ => ?_) | refine wp_geq (fun _ => ?_) (fun _ => ?_) | refine wp_eql (fun _ => ?_) (fun _ => ?_) | refine wp_neq (fun _ => ?_) (fun _ => ?_) | refine wp_add64 (by omega) (by omega) ?_ | refine wp_sub64 (by omega) (by omega) ?_) | refine wp_callV (by assumption) (wpC_method methNode (nodeCells_ok h0 h1)) fun _ _ => ?_ | refine wp_ck (by assumption) (by repeat (first | exact List.Mem.head _ | apply List.Mem.tail)) rfl beq_num ?_)
  all_goals try (first | exact wp_ret ⟨rfl, by first | rw [if_pos (by omega)]; rfl | rw [if_neg (by omega)]; rfl, Cx.grows (by assumption)⟩)
  have hm := mul_bd (a := i) (b := 4 + h) (A := 128) (C := 8) (by omega) (by omega) (by omega) (by omega)
  refine wp_mul64 (by omega) (by omega) ?_
  refine wp_add64 (by omega) (by omega) ?_
  refine wp_add64 (by omega) (by omega) ?_
  exact wp_ret ⟨rfl, by rw [if_neg (by omega)]; rfl, Cx.grows (by assumption)⟩
theorem at0_ok {S : AH} {t : To} : wpC EM (.fn (.func 29) [] []) [.agg t.cs, I 0, I 0] S fun r S' => r = I (if t.ok then t.nd else -1) ∧ Grows S S' := by
  refine wpC_fn (b := Tryz.a29) rfl rfl ?_
  have H : Cx S [] S [] [] := Cx.enter (by simp)
  unfold Tryz.a29 Tryz.a29x4 Tryz.a29x3 Tryz.a29x2 Tryz.a29x1 Tryz.a29x0
  refine wp_box H rfl fun p S1 H => ?_
  refine wp_bind ?_
  refine wp_ldn H (by repeat (first | exact List.Mem.head _ | apply List.Mem.tail)) rfl ?_
  refine wp_callV H (sound_ok (t := t)) fun S2 H => ?_
  by_cases ht : t.ok
  · rw [decide_eq_true ht, if_pos ht]
    have h0 := ht
    unfold To.ok at ht
    refine wp_notT ?_
    try(refine zz ?_;(repeat constructor);intro _)
    refine wp_neq_t (by omega) ?_
    try(refine zz ?_;(repeat constructor);intro _)
    refine wp_ldn H (by repeat (first | exact List.Mem.head _ | apply List.Mem.tail)) rfl ?_
    refine wp_callV H (nodes_ok (t := t)) fun S3 H => ?_
    refine wp_callV H (nodeAt_ok (by omega) (by omega) (by omega) (by omega) (by omega)) fun S4 H => ?_
    refine wp_ret ⟨rfl, ?_, H.grows⟩
    unfold atN
    rw [if_neg (by omega)]
    have : t.nd + 0 * (4 + t.ht) + 0 = t.nd := by omega
    rw [this]; rfl
  · rw [decide_eq_false ht, if_neg ht]
    refine wp_notF ?_
    try(refine zz ?_;(repeat constructor);intro _)
    exact wp_ret ⟨rfl, rfl, H.grows⟩
/-! ### executives -/
structure Ex where
  t : To
  gfirst : Int
  gmany : Int
  jst : Int
  jkeys : Int
  jtop : Int
  jlinks : Int
  jsize : Int
  mfirst : Int
  mcores : Int
  mroom : Int
  rruns : Int
  rflags : Int
  rcores : Int
  own : Int
  seq : Int
def Ex.cs (e : Ex) (v : AV) : List AV := [I e.t.nd, I e.t.hd, I e.t.ht, I e.t.ftop, I e.t.flinks, I e.t.fsize, I e.t.gens, I e.t.worn, I e.t.lim, I e.t.eat, I e.t.pins, I e.t.cores, I e.t.tops,
  I e.gfirst, I e.gmany, I e.jst, I e.jkeys, I e.jtop, I e.jlinks, I e.jsize, I e.mfirst, I e.mcores, I e.mroom, I e.rruns, I e.rflags, I e.rcores, I e.own, I e.seq, v]
def Ex.ok (e : Ex) (l : List Tk) : Prop := e.t.ok ∧ tchk l = 0 ∧ 0 < l.length ∧ e.gmany = l.length ∧ 1 ≤ e.t.cores ∧ e.t.cores ≤ 64 ∧ e.mcores = e.t.cores ∧ e.rcores = e.t.cores ∧ 1 ≤ e.jsize ∧ e.jsize ≤ 64 ∧ 1 ≤ e.mroom ∧ e.mroom ≤ 16 ∧
  cellP e.gfirst ∧ cellP e.jst ∧ cellP e.jkeys ∧ cellP e.jtop ∧ cellP e.jlinks ∧ cellP e.mfirst ∧ cellP e.rruns ∧ cellP e.rflags ∧ cellP e.own ∧ cellP e.seq
instance (e : Ex) (l : List Tk) : Decidable (e.ok l) := inferInstanceAs (Decidable (_ ∧ _))
def Ex.at10 (e : Ex) : List Int := [e.gfirst, e.jst, e.jkeys, e.jtop, e.jlinks, e.mfirst, e.rruns, e.rflags, e.own, e.seq]
theorem at10_all (e : Ex) : (∀ a ∈ e.at10, cellP a) ↔ (cellP e.gfirst ∧ cellP e.jst ∧ cellP e.jkeys ∧ cellP e.jtop ∧ cellP e.jlinks ∧ cellP e.mfirst ∧ cellP e.rruns ∧ cellP e.rflags ∧ cellP e.own ∧ cellP e.seq) := by
  simp [Ex.at10]
section
variable {B0 S : AH} {W : List Nat} {own : List Own} {ro : List Fct} {Q : Post} {k : AV → AC}
theorem slOk_one {S : AH} {v : AV} {es : Nat} {L : List (List AV)} (h : slOk S v es L) : odd v = false ∧ v.cells = [v] := by
  rcases h with ⟨rfl, _⟩ | ⟨id, off, c, (⟨_, _, _, rfl⟩ | ⟨_, _, _, rfl⟩), _⟩ <;> exact ⟨rfl, rfl⟩
set_option maxHeartbeats 4000000 in
theorem soundE_ok {v : AV} {e : Ex} {l : List Tk} (hv : Fct.sl v 4 (tks l) ∈ ro) (H : Cx B0 W S own ro) : wpC EM (.fn (.func 7) [] []) [.agg (e.cs v)] S fun r S' => r = B (decide (e.ok l)) ∧ Grows S S' := by
  refine wpC_fn (b := Tryz.a7) rfl rfl ?_
  have hv0 : RoSl S v 4 (tks l) := H.roSl hv
  clear H
  have H := Cx.ro1 hv0
  have hT := fun {S1 : AH} {own : List Own} {ro : List Fct} (H : Cx S [] S1 own ro) (hm : Fct.sl v 4 (tks l) ∈ ro) => Tsk.check_ok (l := l) (H.roSl hm)
  unfold Tryz.a7 Tryz.a7x20 Tryz.a7x19 Tryz.a7x18 Tryz.a7x17 Tryz.a7x16 Tryz.a7x15 Tryz.a7x14 Tryz.a7x13 Tryz.a7x12 Tryz.a7x11 Tryz.a7x10 Tryz.a7x9 Tryz.a7x8 Tryz.a7x7 Tryz.a7x6 Tryz.a7x5 Tryz.a7x4 Tryz.a7x3 Tryz.a7x2 Tryz.a7x1 Tryz.a7x0
  have bad : ∀ (S1 : AH), ¬ e.ok l → Grows S S1 → (Tag.ret = Tag.ret ∧ oneOf [B false] = B (decide (e.ok l)) ∧ Grows S S1) := fun S1 hn hg => ⟨rfl, by rw [decide_eq_false hn]; rfl, hg⟩
  refine wp_box H rfl fun p S1 H => ?_
  try(refine zz ?_;(repeat constructor);intro _)
  refine wp_ld H (by repeat (first | exact List.Mem.head _ | apply List.Mem.tail)) rfl ?_
  try(refine zz ?_;(repeat constructor);intro _)
  refine wp_ldn H (by repeat (first | exact List.Mem.head _ | apply List.Mem.tail)) rfl ?_
  refine wp_callV H (at0_ok (t := e.t)) fun S2 H => ?_
  by_cases ht : e.t.ok
  rotate_left
  · rw [if_neg ht]
    refine wp_lss_t (by omega) ?_
    try(refine zz ?_;(repeat constructor);intro _)
    exact wp_ret (bad _ (fun h => ht h.1) H.grows)
  rw [if_pos ht]
  have ht0 := ht
  unfold To.ok at ht
  refine wp_lss_f (by omega) ?_
  try(refine zz ?_;(repeat constructor);intro _)
  refine wp_ld H (by repeat (first | exact List.Mem.head _ | apply List.Mem.tail)) rfl ?_
  try(refine zz ?_;(repeat constructor);intro _)
  refine wp_callV H (hT H (by repeat (first | exact List.Mem.head _ | apply List.Mem.tail))) fun S3 H => ?_
  try(refine zz ?_;(repeat constructor);intro _)
  refine wp_neq (fun hne => ?_) (fun hz => ?_)
  · try(refine zz ?_;(repeat constructor);intro _)
    exact wp_ret (bad _ (fun h => hne h.2.1) H.grows)
  try(refine zz ?_;(repeat constructor);intro _)
  refine wp_ld H (by repeat (first | exact List.Mem.head _ | apply List.Mem.tail)) rfl ?_
  try(refine zz ?_;(repeat constructor);intro _)
  refine wp_len H (by repeat (first | exact List.Mem.head _ | apply List.Mem.tail)) ?_
  rw [Tsk.tks_len]
  try(refine zz ?_;(repeat constructor);intro _)
  refine wp_eql (fun h0 => ?_) (fun hpos => ?_)
  · try(refine zz ?_;(repeat constructor);intro _)
    exact wp_ret (bad _ (fun h => by have := h.2.2.1; omega) H.grows)
  try(refine zz ?_;(repeat constructor);intro _)
  refine wp_ld H (by repeat (first | exact List.Mem.head _ | apply List.Mem.tail)) rfl ?_
  try(refine zz ?_;(repeat constructor);intro _)
  refine wp_ld H (by repeat (first | exact List.Mem.head _ | apply List.Mem.tail)) rfl ?_
  try(refine zz ?_;(repeat constructor);intro _)
  refine wp_len H (by repeat (first | exact List.Mem.head _ | apply List.Mem.tail)) ?_
  rw [Tsk.tks_len]
  have fin : ∀ (S1 : AH) , ¬ (e.gmany = l.length ∧ 1 ≤ e.t.cores ∧ e.t.cores ≤ 64 ∧ e.mcores = e.t.cores ∧ e.rcores = e.t.cores ∧ 1 ≤ e.jsize ∧ e.jsize ≤ 64 ∧ 1 ≤ e.mroom ∧ e.mroom ≤ 16) → Grows S S1 → (Tag.ret = Tag.ret ∧ oneOf [B false] = B (decide (e.ok l)) ∧ Grows S S1) :=
    fun S1 hn hg => bad S1 (fun h => hn (by unfold Ex.ok at h; omega)) hg
  repeat' (first | exact wp_ret (fin _ (by omega) (Cx.grows (by assumption))) | (refine wp_lits (by assumption) e.at10 rfl rfl fun vl S4 H => ?_) | (first|refine zA ?_|refine zB rfl ?_|refine zC ?_|refine zD ?_|refine zE rfl ?_|refine zF ?_|refine zG ?_|refine zH ?_|refine zI ?_|refine zJ ?_|refine zK ?_|refine zL rfl ?_|refine zN rfl ?_) | refine wp_ld (by assumption) (by repeat (first | exact List.Mem.head _ | apply List.Mem.tail)) rfl ?_ | refine wp_lss (fun _ => ?_) (fun _ => ?_) | refine wp_gtr (fun _ => ?_) (fun _ => ?_) | refine wp_neq (fun _ => ?_) (fun _ => ?_))
  refine wp_len H (by repeat (first | exact List.Mem.head _ | apply List.Mem.tail)) ?_
  rw [ints_len]
  refine wp_bind (wp_loop (wpL_inv (fun m vs S1 => ∃ (i : Nat), vs = [I (i : Int), B false] ∧ i ≤ 10 ∧ m = 10 - i ∧ (∀ a ∈ e.at10.take i, cellP a) ∧ Cx S [] S1 [] [.sl vl 1 (ints e.at10), .pt p 0 (AV.agg (e.cs v)).cells, .sl v 4 (tks l)]) ?_ 10 ⟨0, rfl, by omega, by omega, by simp, H⟩))
  clear H
  rintro m vs S5 ⟨i, rfl, hi, rfl, hall, H⟩
  have hl10 : e.at10.length = 10 := rfl
  refine wp_lss (fun hlt => ?_) (fun hge => ?_)
  · have hlt : i < e.at10.length := by rw [hl10] at hlt ⊢; omega
    try(refine zz ?_;(repeat constructor);intro _)
    refine wp_bind ?_
    refine wp_saddr (i := i) (x := [I e.at10[i]]) H (by repeat (first | exact List.Mem.head _ | apply List.Mem.tail)) (by simp [ints, hlt]) fun q1 o1 H1 => ?_
    refine wp_load0 H1 (by repeat (first | exact List.Mem.head _ | apply List.Mem.tail)) rfl ?_
    replace H := H1.tl
    have out : ¬ cellP e.at10[i] → Tag.ret = Tag.ret ∧ oneOf [B false] = B (decide (e.ok l)) ∧ Grows S S5 := fun hn => bad _ (fun h => hn ((at10_all e).2 (by unfold Ex.ok at h; simp only [h, and_self]) _ (List.getElem_mem hlt))) H.grows
    refine wp_lss (fun h0 => ?_) (fun h0 => ?_)
    · try(refine zz ?_;(repeat constructor);intro _)
      refine wp_ret (.inr ⟨by simp, out (fun h => by unfold cellP at h; omega)⟩)
    try(refine zz ?_;(repeat constructor);intro _)
    refine wp_geq (fun h1 => ?_) (fun h1 => ?_)
    · try(refine zz ?_;(repeat constructor);intro _)
      refine wp_ret (.inr ⟨by simp, out (fun h => by unfold cellP at h; omega)⟩)
    try(refine zz ?_;(repeat constructor);intro _)
    refine wp_ret ?_
    show wp EM _ _ _
    refine wp_add64 (by omega) (by omega) (wp_ret (.inl ⟨rfl, 10 - (i + 1), by omega, i + 1, rfl, by omega, rfl, ?_, H⟩))
    rw [List.take_succ_eq_append_getElem hlt]
    intro a ha
    rcases List.mem_append.1 ha with ha | ha
    · exact hall a ha
    · rw [List.mem_singleton.1 ha]; exact ⟨h0, h1⟩
  · try(refine zz ?_;(repeat constructor);intro _)
    refine wp_ret (.inr ⟨by simp, ?_⟩)
    show wp EM _ _ _
    have : i = 10 := by rw [hl10] at hge; omega
    subst this
    rw [List.take_of_length_le (by rw [hl10]; omega)] at hall
    refine wp_ret ⟨rfl, ?_, H.grows⟩
    have := (at10_all e).1 hall
    rw [decide_eq_true (show e.ok l by unfold Ex.ok; refine ⟨ht0, by omega, by omega, by omega, by omega, by omega, by omega, by omega, by omega, by omega, by omega, by omega, this⟩)]
    rfl
end
end Go.Abs
namespace Go.Abs
open Go.Proofs
set_option maxRecDepth 100000
set_option linter.unusedVariables false
open Tsk (Tk tks tchk)
/-! ### setups -/
structure Su where
  cores : Int
  jobs : Int
  nodes : Int
  height : Int
  room : Int
  limit : Int
def Su.cs (s : Su) (v : AV) : List AV := [I s.cores, I s.jobs, I s.nodes, I s.height, I s.room, I s.limit, v]
def Su.fine (s : Su) : Prop := 1 ≤ s.cores ∧ s.cores ≤ 64 ∧ 1 ≤ s.jobs ∧ s.jobs ≤ 64 ∧ s.jobs + 1 ≤ s.nodes ∧ s.nodes ≤ 128 ∧ 1 ≤ s.height ∧ s.height ≤ 4 ∧ 1 ≤ s.room ∧ s.room ≤ 16 ∧ 1 ≤ s.limit ∧ s.limit ≤ 4294967295
instance (s : Su) : Decidable s.fine := inferInstanceAs (Decidable (_ ∧ _))
def Su.chk (s : Su) (l : List Tk) : Int := if s.fine then (if tchk l ≠ 0 then tchk l else if l.length = 0 then 2 else 0) else 3
def Su.bd (s : Su) : List (Int × Int × Int) := [(s.cores, 1, 64), (s.jobs, 1, 64), (s.nodes, min s.jobs 64 + 1, 128), (s.height, 1, 4), (s.room, 1, 16), (s.limit, 1, 4294967295)]
theorem Su.bd_all (s : Su) : (∀ b ∈ s.bd, b.2.1 ≤ b.1 ∧ b.1 ≤ b.2.2) ↔ s.fine := by
  simp only [Su.bd, List.mem_cons, List.not_mem_nil, or_false, forall_eq_or_imp, forall_eq]
  unfold Su.fine
  omega
theorem e_min2 (a b : Int) : minmax1 false (I a) (I b) = some (I (min a b)) := by
  show some (AV.sc (.int .i64 (if ltF b a then b else a))) = _
  rw [ltF_eq]
  by_cases h : b < a
  · rw [decide_eq_true h, Int.min_eq_right (by omega)]; rfl
  · rw [decide_eq_false h, Int.min_eq_left (by omega)]; rfl
theorem e_max2 (a b : Int) : minmax1 true (I a) (I b) = some (I (max a b)) := by
  show some (AV.sc (.int .i64 (if ltF a b then b else a))) = _
  rw [ltF_eq]
  by_cases h : a < b
  · rw [decide_eq_true h, Int.max_eq_right (by omega)]; rfl
  · rw [decide_eq_false h, Int.max_eq_left (by omega)]; rfl
section
variable {M : Mach} {B0 S : AH} {W : List Nat} {own : List Own} {ro : List Fct} {Q : Post} {k : AV → AC} {kc : AC}
theorem wp_min2 {a b : Int} (h : wp M (k (I (min a b))) S Q) : wp M (.op (.minmax false [I a, I b]) k) S Q := wp_op (v := I (min a b)) (by
  show pur (minmax1 false (I a) (I b) >>= fun x => some x) S = _
  rw [e_min2]; rfl) h
theorem wp_max2 {a b : Int} (h : wp M (k (I (max a b))) S Q) : wp M (.op (.minmax true [I a, I b]) k) S Q := wp_op (v := I (max a b)) (by
  show pur (minmax1 true (I a) (I b) >>= fun x => some x) S = _
  rw [e_max2]; rfl) h
theorem wp_st (H : Cx B0 W S own ro) (i : Nat) {id off n : Nat} {c : List AV} {v : AV} (hi : own[i]? = some (.obj id (.row c))) (ho : odd v = false) (hn : v.cells.length = n) (hl : Nat.ble (off + n) c.length = true)
    (h : ∀ S1, Cx B0 W S1 (own.set i (.obj id (.row (setRange c off v.cells)))) ro → wp M (k uv) S1 Q) : wp M (.op (.store n (.ptr id off) v) k) S Q :=
  wp_store H i hi ho hn (Nat.le_of_ble_eq_true hl) h
theorem wp_cko (H : Cx B0 W S own ro) (i : Nat) {id o : Nat} {c : List AV} {v : AV} (hi : own[i]? = some (.obj id (.row c))) (hj : c[o]? = some v) (hb : AV.beq v v = true) (h : wp M kc S Q) : wp M (.chk (.load 1 false (.ptr id o)) v kc) S Q := by
  refine wp_chk (v' := v) ?_ hb h
  show (match S.cells? id with | some c => mkPart false c o 1 | none => none) = _
  rw [row_cells (H.oh _ (List.mem_of_getElem? hi))]
  exact mkPart_one hj
theorem wp_bslice0 (H : Cx B0 W S own ro) {es : Nat} {z : List AV} (hz : z.length = es) (h : ∀ v S1, Cx B0 W S1 (.sl v es [] :: own) ro → wp M (k v) S1 Q) : wp M (.op (.bslice es 0 z []) k) S Q := by
  refine wp_op (v := .sl S.next 0 0 0) (S1 := S.new (.row [])) ?_ (h _ _ (H.addOwn (Grows.new S _) (x := .sl (.sl S.next 0 0 0) es []) ?_ ?_))
  · show nBslice es 0 z [] S = _
    unfold nBslice
    have e : (Nat.beq (lenL ([] : List AV)) (Nat.mul 0 es) && Nat.beq (lenL z) es) = true := by
      rw [lenL_eq, lenL_eq, hz, Nat.beq_refl, show Nat.mul 0 es = 0 from Nat.zero_mul es]; rfl
    show (match Nat.beq (lenL ([] : List AV)) (Nat.mul 0 es) && Nat.beq (lenL z) es with | true => lay S (.row []) fun id => .sl id 0 0 0 | false => none) = _
    rw [e]; rfl
  · exact .inr ⟨S.next, 0, [], .inl ⟨0, by simp, by simp, rfl⟩, get_new_same _ _, by simp, by simp⟩
  · intro id hid
    simp only [Own.ids, vids, List.mem_singleton] at hid
    subst hid
    exact ⟨Nat.le_refl _, by simp [AH.new]⟩
end
theorem Cx.addNilS {B0 S : AH} {W : List Nat} {own : List Own} {ro : List Fct} (H : Cx B0 W S own ro) (es : Nat) : Cx B0 W S (.sl Ns es [] :: own) ro := H.addOwn (Grows.refl S) (.inl ⟨rfl, rfl⟩) (fun id hid => by simp [Own.ids, vids] at hid)
theorem bounds6_ok {S : AH} {s : Su} {v : AV} {l : List Tk} (hj : -9223372036854775808 ≤ s.jobs) (hv : RoSl S v 4 (tks l)) : wpC EM (.fn (.func 25) [] []) [.agg (s.cs v)] S fun r S' => (∃ cs : List AV, r = .agg cs ∧ ∀ i, i < 6 → ∃ x b, (cs.drop (i * 4)).take 4 = [x, I b.1, I b.2.1, I b.2.2] ∧ odd x = false ∧ x.cells = [x] ∧ s.bd[i]? = some b) ∧ Grows S S' := by
  refine wpC_fn (b := Tryz.a25) rfl rfl ?_
  have H := Cx.ro1 hv
  unfold Tryz.a25 Tryz.a25x3 Tryz.a25x2 Tryz.a25x1 Tryz.a25x0
  refine wp_fin ?_
  refine wp_box H rfl fun p S1 H => ?_
  refine wp_alloc H fun q S2 H => ?_
  repeat' (first | (first|refine zA ?_|refine zB rfl ?_|refine zC ?_|refine zD ?_|refine zE rfl ?_|refine zF ?_|refine zG ?_|refine zH ?_|refine zI ?_|refine zJ ?_|refine zK ?_|refine zL rfl ?_|refine zN rfl ?_) | refine wp_ld (by assumption) (by repeat (first | exact List.Mem.head _ | apply List.Mem.tail)) rfl ?_ | refine wp_op (o := .build _ _) rfl ?_ | refine wp_min2 ?_ | refine wp_add64 (by omega) (by omega) ?_)
  refine wp_st H 0 rfl rfl rfl rfl fun S3 H => ?_
  refine wp_ret ⟨.inr rfl, ?_⟩
  refine wp_loadoa (n := 24) H 0 rfl (Nat.le_of_ble_eq_true rfl) ?_
  refine wp_ret ⟨rfl, ⟨_, rfl, ?_⟩, H.grows⟩
  intro i hi
  match i, hi with
  | 0, _ => exact ⟨_, _, rfl, rfl, rfl, rfl⟩
  | 1, _ => exact ⟨_, _, rfl, rfl, rfl, rfl⟩
  | 2, _ => exact ⟨_, _, rfl, rfl, rfl, rfl⟩
  | 3, _ => exact ⟨_, _, rfl, rfl, rfl, rfl⟩
  | 4, _ => exact ⟨_, _, rfl, rfl, rfl, rfl⟩
  | 5, _ => exact ⟨_, _, rfl, rfl, rfl, rfl⟩
  | j + 6, h => exact absurd h (by omega)
section
variable {B0 S : AH} {W : List Nat} {own : List Own} {ro : List Fct} {Q : Post} {k : AV → AC}
theorem wp_aidxA {len es i : Nat} {cs l : List AV} (hi : i < len) (hl : i * es + es ≤ cs.length) (he : (cs.drop (i * es)).take es = l) (h : wp EM (k (.agg l)) S Q) : wp EM (.op (.aidx len es true (.agg cs) (I (i : Int))) k) S Q := by
  refine wp_op (v := .agg l) ?_ h
  have h3 : idx? (I (i : Int)) len = some i := by
    show below i len = some i
    unfold below; rw [ble_t (by omega)]
  show pur (pAidx len es true (.agg cs) (I (i : Int))) S = _
  have : pAidx len es true (.agg cs) (I (i : Int)) = some (.agg l) := by
    show (match idx? (I (i : Int)) len with | some i => mkPart true cs (Nat.mul i es) es | none => none) = _
    rw [h3]
    simp only
    rw [mkPart_agg (by show Nat.mul i es + es ≤ _; exact hl)]
    show some (AV.agg ((cs.drop (i * es)).take es)) = _
    rw [he]
  rw [this]; rfl
theorem checkE_ok {s : Su} {v : AV} {l : List Tk} (hj : -9223372036854775808 ≤ s.jobs) (hv : Fct.sl v 4 (tks l) ∈ ro) (H : Cx B0 W S own ro) : wpC EM (.fn (.func 5) [] []) [.agg (s.cs v)] S fun r S' => r = I (s.chk l) ∧ Grows S S' := by
  refine wpC_fn (b := Tryz.a5) rfl rfl ?_
  have hv0 : RoSl S v 4 (tks l) := H.roSl hv
  clear H
  have H := Cx.ro1 hv0
  unfold Tryz.a5 Tryz.a5x5 Tryz.a5x4 Tryz.a5x3 Tryz.a5x2 Tryz.a5x1 Tryz.a5x0
  refine wp_box H rfl fun p S1 H => ?_
  refine wp_ldn H (by repeat (first | exact List.Mem.head _ | apply List.Mem.tail)) rfl ?_
  refine wp_callG H (bounds6_ok (s := s) hj (H.roSl (show Fct.sl v 4 (tks l) ∈ _ by repeat (first | exact List.Mem.head _ | apply List.Mem.tail)))) fun r S2 ⟨cs, hr, hcs⟩ H => ?_
  subst hr
  refine wp_bind (wp_loop (wpL_inv (fun m vs S1 => ∃ (i : Nat), vs = [I (i : Int), I 0] ∧ i ≤ 6 ∧ m = 6 - i ∧ (∀ b ∈ s.bd.take i, b.2.1 ≤ b.1 ∧ b.1 ≤ b.2.2) ∧ Cx S [] S1 [] [.pt p 0 (s.cs v), .sl v 4 (tks l)]) ?_ 6 ⟨0, rfl, by omega, by omega, by simp, H⟩))
  clear H
  rintro m vs S5 ⟨i, rfl, hi, rfl, hall, H⟩
  refine wp_lss (fun hlt => ?_) (fun hge => ?_)
  · have hlt : i < 6 := by omega
    obtain ⟨x, b, h1, hx1, hx2, h2⟩ := hcs i hlt
    have hcl : i * 4 + 4 ≤ cs.length := by
      have := congrArg List.length h1
      rw [List.length_take, List.length_drop] at this
      simp at this; omega
    try(refine zz ?_;(repeat constructor);intro _)
    refine wp_bind ?_
    refine wp_aidxA hlt hcl h1 ?_
    refine wp_tmpN H rfl rfl rfl fun q S6 H => ?_
    have H : Cx S [] S6 [] [.pt q 0 [x, I b.1, I b.2.1, I b.2.2], .pt p 0 (s.cs v), .sl v 4 (tks l)] := H
    have hbl : s.bd.length = 6 := rfl
    have hb : s.bd[i]'(by rw [hbl]; exact hlt) = b := by
      have := (List.getElem?_eq_some_iff.1 h2).2; exact this
    have out : ¬ (b.2.1 ≤ b.1 ∧ b.1 ≤ b.2.2) → I 3 = I (s.chk l) := fun hn => by
      unfold Su.chk
      rw [if_neg fun hf => hn ((s.bd_all).2 hf b (List.mem_of_getElem? h2))]
    try(refine zz ?_;(repeat constructor);intro _)
    refine wp_ld H (by repeat (first | exact List.Mem.head _ | apply List.Mem.tail)) rfl ?_
    try(refine zz ?_;(repeat constructor);intro _)
    refine wp_ld H (by repeat (first | exact List.Mem.head _ | apply List.Mem.tail)) rfl ?_
    refine wp_lss (fun h0 => ?_) (fun h0 => ?_)
    · try(refine zz ?_;(repeat constructor);intro _)
      refine wp_ret (.inr ⟨by simp, rfl, out (by omega), H.grows⟩)
    try(refine zz ?_;(repeat constructor);intro _)
    refine wp_ld H (by repeat (first | exact List.Mem.head _ | apply List.Mem.tail)) rfl ?_
    try(refine zz ?_;(repeat constructor);intro _)
    refine wp_ld H (by repeat (first | exact List.Mem.head _ | apply List.Mem.tail)) rfl ?_
    try(refine zz ?_;(repeat constructor);intro _)
    refine wp_gtr (fun h3 => ?_) (fun h3 => ?_)
    · try(refine zz ?_;(repeat constructor);intro _)
      refine wp_ret (.inr ⟨by simp, rfl, out (by omega), H.grows⟩)
    try(refine zz ?_;(repeat constructor);intro _)
    refine wp_ret ?_
    show wp EM _ _ _
    refine wp_add64 (by omega) (by omega) (wp_ret (.inl ⟨rfl, 6 - (i + 1), by omega, i + 1, rfl, by omega, rfl, ?_, H.tl⟩))
    rw [List.take_succ_eq_append_getElem (by rw [hbl]; exact hlt)]
    intro a ha
    rcases List.mem_append.1 ha with ha | ha
    · exact hall a ha
    · rw [List.mem_singleton.1 ha, hb]; exact ⟨h0, h3⟩
  · have : i = 6 := by omega
    subst this
    try(refine zz ?_;(repeat constructor);intro _)
    refine wp_ret (.inr ⟨by simp, ?_⟩)
    show wp EM _ _ _
    rw [List.take_of_length_le (by show s.bd.length ≤ 6; exact Nat.le_refl 6)] at hall
    have hf := (s.bd_all).1 hall
    try(refine zz ?_;(repeat constructor);intro _)
    refine wp_ld H (by repeat (first | exact List.Mem.head _ | apply List.Mem.tail)) rfl ?_
    refine wp_callV H (Tsk.check_ok (l := l) (H.roSl (by repeat (first | exact List.Mem.head _ | apply List.Mem.tail)))) fun S6 H => ?_
    unfold Su.chk
    rw [if_pos hf]
    refine wp_neq (fun hne => ?_) (fun hz => ?_)
    · try(refine zz ?_;(repeat constructor);intro _)
      rw [if_pos hne]
      exact wp_ret ⟨rfl, rfl, H.grows⟩
    try(refine zz ?_;(repeat constructor);intro _)
    rw [if_neg (by omega)]
    refine wp_ld H (by repeat (first | exact List.Mem.head _ | apply List.Mem.tail)) rfl ?_
    refine wp_len H (by repeat (first | exact List.Mem.head _ | apply List.Mem.tail)) ?_
    rw [Tsk.tks_len]
    refine wp_eql (fun h0 => ?_) (fun hpos => ?_)
    · try(refine zz ?_;(repeat constructor);intro _)
      rw [if_pos (by omega)]
      exact wp_ret ⟨rfl, rfl, H.grows⟩
    · try(refine zz ?_;(repeat constructor);intro _)
      rw [if_neg (by omega)]
      exact wp_ret ⟨rfl, rfl, H.grows⟩
theorem tks_all (l : List Tk) : ∀ x ∈ tks l, x.length = 4 := by
  intro x hx
  obtain ⟨y, _, rfl⟩ := List.mem_map.1 hx
  rfl
theorem cloneT_ok {v : AV} {l : List Tk} (hv : RoSl S v 4 (tks l)) (hl : l.length ≤ 100000) : wpC EM (.fn (.func 28) [] []) [v] S fun r S' => Cx S [] S' [.sl r 4 (tks l)] [] := by
  refine wpC_fn (b := Tryz.a28) rfl rfl ?_
  have H := Cx.ro1 hv
  unfold Tryz.a28
  have some' : v ≠ Ns → evalOp EM.P (.eq 22 false v Ns) S = some (B false, S) := fun hne => by
    rcases hv.1 with ⟨rfl, _⟩ | ⟨id, off, c, (⟨_, _, _, rfl⟩ | ⟨_, _, _, rfl⟩), _⟩
    · exact absurd rfl hne
    · kernel_rfl
    · kernel_rfl
  by_cases hn : v = Ns
  · subst hn
    have h0 : tks l = [] := by
      rcases hv.1 with ⟨_, h⟩ | ⟨id, off, c, (⟨_, _, _, h⟩ | ⟨_, _, _, h⟩), _⟩
      · exact h
      · cases h
      · cases h
    refine wp_op (v := B true) (S1 := S) (by kernel_rfl) ?_
    try(refine zz ?_;(repeat constructor);intro _)
    refine wp_ret ⟨rfl, ?_⟩
    rw [h0]
    rw [h0] at H
    exact (H.addNilS 4).tl
  · refine wp_op (some' hn) ?_
    try(refine zz ?_;(repeat constructor);intro _)
    refine wp_bslice0 H rfl fun u S1 H => ?_
    refine wp_appendR (x := v) (N := tks l) H 0 rfl (by repeat (first | exact List.Mem.head _ | apply List.Mem.tail)) (tks_all l) (by rw [Tsk.tks_len]; unfold maxBytes; simp; omega) (by rw [Tsk.tks_len]; unfold maxLenN; simp; omega) fun v1 S2 H => ?_
    refine wp_ret ⟨rfl, ?_⟩
    exact H.tl
end
/-! ### where the executive of a setup lies -/
def layE (s : Su) (n : Int) : Ex :=
  let N := s.nodes
  let C := s.cores
  let P := s.nodes * (4 + s.height)
  let g := 6 + 2 * N + C + s.height + P
  let j := g + n
  let m := j + 3 * s.jobs + 1
  let r := m + s.cores * (s.room + 2)
  { t := { nd := 6 + 2 * N + C + s.height, hd := 6 + 2 * N + C, ht := s.height, ftop := 0, flinks := 1, fsize := N, gens := 1 + N, worn := 1 + 2 * N, lim := s.limit, eat := 2 + 2 * N, pins := 3 + 2 * N, cores := C, tops := 3 + 2 * N + C },
    gfirst := g, gmany := n, jst := j, jkeys := j + s.jobs, jtop := j + 2 * s.jobs, jlinks := j + 2 * s.jobs + 1, jsize := s.jobs, mfirst := m, mcores := C, mroom := s.room, rruns := r, rflags := r + C, rcores := C, own := r + 2 * C, seq := r + 3 * C }
def layN (s : Su) (n : Int) : Int := (layE s n).seq + 1
theorem lay_bd {s : Su} {l : List Tk} (h : s.chk l = 0) : s.fine ∧ tchk l = 0 ∧ 1 ≤ l.length ∧ l.length ≤ 32 ∧ (0 ≤ s.nodes * (4 + s.height) ∧ s.nodes * (4 + s.height) ≤ 128 * 8) ∧ (0 ≤ s.cores * (s.room + 2) ∧ s.cores * (s.room + 2) ≤ 64 * 18) := by
  unfold Su.chk at h
  by_cases hf : s.fine
  · rw [if_pos hf] at h
    by_cases ht : tchk l ≠ 0
    · rw [if_pos ht] at h; exact absurd h ht
    · rw [if_neg ht] at h
      have ht : tchk l = 0 := Decidable.not_not.1 ht
      have hl : l.length ≤ 32 := by
        unfold Tsk.tchk at ht
        split at ht
        · cases ht
        · omega
      have hp : 1 ≤ l.length := by
        split at h
        · cases h
        · omega
      have hf' := hf
      unfold Su.fine at hf'
      exact ⟨hf, ht, hp, hl, mul_bd (by omega) (by omega) (by omega) (by omega), mul_bd (by omega) (by omega) (by omega) (by omega)⟩
  · rw [if_neg hf] at h; cases h
theorem tupE {c c' : List AV} {a b : Int} (h : c = c') (h2 : a = b) : AV.tup [.agg c, I a, I 0] = .tup [.agg c', I b, I 0] := by rw [h, h2]
theorem Ex.beq_sl {S : AH} {v : AV} {es : Nat} {L : List (List AV)} (hv : slOk S v es L) : AV.beq v v = true := by
  rcases hv with ⟨rfl, _⟩ | ⟨id, off, c, (⟨cap, _, _, rfl⟩ | ⟨cap, _, _, rfl⟩), _⟩
  · rfl
  · show (Nat.beq id id && Nat.beq off off && Nat.beq L.length L.length && Nat.beq cap cap) = true
    simp only [Nat.beq_refl, Bool.and_self]
  · show (Nat.beq id id && Nat.beq off off && Nat.beq L.length L.length && Nat.beq cap cap && Nat.beq es es) = true
    simp only [Nat.beq_refl, Bool.and_self]
theorem consI {a b : Int} {l m : List AV} (h : a = b) (h2 : l = m) : I a :: l = I b :: m := by rw [h, h2]
section
variable {B0 S : AH} {W : List Nat} {own : List Own} {ro : List Fct} {Q : Post} {k : AV → AC}
theorem wp_next {x at' res : Nat} {u : AV} {es : Nat} {L : List (List AV)} {r z : AO} {a n : Int} (H : Cx B0 W S [.obj x r, .sl u es L, .obj at' (.row [I a]), .obj res z] ro) (h1 : -9223372036854775808 ≤ a + n) (h2 : a + n ≤ 9223372036854775807) (h3 : -9223372036854775808 ≤ a) (h4 : a ≤ 9223372036854775807)
    (h : ∀ S1, Cx B0 W S1 [.obj x r, .sl u es L, .obj at' (.row [I (a + n)]), .obj res z] ro → wp EM (k (I a)) S1 Q) : wp EM (.call (.fn (.func 27) [] [.ptr at' 0]) [I n] k) S Q := by
  refine wp_call (wpC_fn (b := Tryz.a27) rfl rfl ?_)
  unfold Tryz.a27
  refine wp_loado H 2 rfl rfl ?_
  refine wp_add64 h1 h2 ?_
  refine wp_st H 2 rfl rfl rfl rfl fun S1 H => ?_
  have H : Cx B0 W S1 [.obj x r, .sl u es L, .obj at' (.row [I (a + n)]), .obj res z] ro := H
  refine wp_loado H 2 rfl rfl ?_
  refine wp_sub64 (by omega) (by omega) ?_
  refine wp_ret ⟨rfl, ?_⟩
  show wp EM (k (I (a + n - n))) S1 Q
  rw [show a + n - n = a by omega]
  exact h S1 H
theorem e_buildT {u : AV} {es : Nat} {L : List (List AV)} (hs : slOk S u es L) : evalOp EM.P (.build [I 0, I 0, I 0, I 0, I 0, I 0, I 0, I 0, I 0, I 0, I 0, I 0, I 0, I 0, I 0, I 0, I 0, I 0, I 0, I 0, I 0, I 0, I 0, I 0, I 0, I 0, I 0, I 0, Ns] [(28, 1, u)]) S = some (.agg [I 0, I 0, I 0, I 0, I 0, I 0, I 0, I 0, I 0, I 0, I 0, I 0, I 0, I 0, I 0, I 0, I 0, I 0, I 0, I 0, I 0, I 0, I 0, I 0, I 0, I 0, I 0, I 0, u], S) := by
  rcases hs with ⟨rfl, _⟩ | ⟨id, off, c, (⟨_, _, _, rfl⟩ | ⟨_, _, _, rfl⟩), _⟩ <;> rfl
def zeroE (v : AV) : List AV := [I 0, I 0, I 0, I 0, I 0, I 0, I 0, I 0, I 0, I 0, I 0, I 0, I 0, I 0, I 0, I 0, I 0, I 0, I 0, I 0, I 0, I 0, I 0, I 0, I 0, I 0, I 0, I 0, v]
def layR (s : Su) (l : List Tk) (u r : AV) : Prop := (s.chk l ≠ 0 ∧ u = Ns ∧ r = .tup [.agg (zeroE Ns), I 0, I (s.chk l)]) ∨ (s.chk l = 0 ∧ r = .tup [.agg ((layE s l.length).cs u), I (layN s l.length), I 0])
set_option maxHeartbeats 4000000 in
theorem layout_ok {s : Su} {v : AV} {l : List Tk} (hj : -9223372036854775808 ≤ s.jobs) (hv : RoSl S v 4 (tks l)) : wpC EM (.fn (.func 6) [] []) [.agg (s.cs v)] S fun r S' => ∃ u, layR s l u r ∧ Cx S [] S' [.sl u 4 (if s.chk l = 0 then tks l else [])] [] := by
  refine wpC_fn (b := Tryz.a6) rfl rfl ?_
  have H := Cx.ro1 hv
  unfold Tryz.a6 Tryz.a6x36 Tryz.a6x35 Tryz.a6x34 Tryz.a6x33 Tryz.a6x32 Tryz.a6x31 Tryz.a6x30 Tryz.a6x29 Tryz.a6x28 Tryz.a6x27 Tryz.a6x26 Tryz.a6x25 Tryz.a6x24 Tryz.a6x23 Tryz.a6x22 Tryz.a6x21 Tryz.a6x20 Tryz.a6x19 Tryz.a6x18 Tryz.a6x17 Tryz.a6x16 Tryz.a6x15 Tryz.a6x14 Tryz.a6x13 Tryz.a6x12 Tryz.a6x11 Tryz.a6x10 Tryz.a6x9 Tryz.a6x8 Tryz.a6x7 Tryz.a6x6 Tryz.a6x5 Tryz.a6x4 Tryz.a6x3 Tryz.a6x2 Tryz.a6x1 Tryz.a6x0 layR
  refine wp_fin ?_
  refine wp_box H rfl fun p S1 H => ?_
  refine wp_alloc H fun q S2 H => ?_
  refine wp_ldn H (by repeat (first | exact List.Mem.head _ | apply List.Mem.tail)) rfl ?_
  refine wp_callV H (checkE_ok (s := s) (l := l) hj (by repeat (first | exact List.Mem.head _ | apply List.Mem.tail)) H) fun S3 H => ?_
  refine wp_neq (fun hne => ?_) (fun hz => ?_)
  · try(refine zz ?_;(repeat constructor);intro _)
    refine wp_op (o := .build _ _) rfl ?_
    refine wp_st H 0 rfl rfl rfl rfl fun S4 H => ?_
    refine wp_ret ⟨.inr rfl, ?_⟩
    refine wp_loadoa (n := 29) H 0 rfl (Nat.le_of_ble_eq_true rfl) ?_
    refine wp_ret ⟨rfl, Ns, .inl ⟨hne, rfl, rfl⟩, ?_⟩
    rw [if_neg hne]
    exact ((H.dropAt 0).addNilS 4).dropRo (by simp)
  obtain ⟨hf, ht, hp, hl, hb1, hb2⟩ := lay_bd hz
  have hf0 := hf
  unfold Su.fine at hf
  rw [if_pos hz]
  try(refine zz ?_;(repeat constructor);intro _)
  refine wp_alloc H fun at' S4 H => ?_
  refine wp_st H 0 rfl rfl rfl rfl fun S5 H => ?_
  have H : Cx S [] S5 [.obj at' (.row [I 0]), .obj q (.row (zeroE Ns))] [.pt p 0 (s.cs v), .sl v 4 (tks l)] := H
  try(refine zz ?_;(repeat constructor);intro _)
  refine wp_ld H (by repeat (first | exact List.Mem.head _ | apply List.Mem.tail)) rfl ?_
  refine wp_callN H (cloneT_ok (l := l) (H.roSl (by repeat (first | exact List.Mem.head _ | apply List.Mem.tail))) (by omega)) fun u S6 H => ?_
  refine wp_op (e_buildT (ownSl_ok (H.oh _ (List.Mem.head _)))) ?_
  refine wp_alloc H fun x S7 H => ?_
  refine wp_st H 0 rfl rfl rfl rfl fun S8 H => ?_
  have H : Cx S [] S8 [.obj x (.row (zeroE u)), .sl u 4 (tks l), .obj at' (.row [I 0]), .obj q (.row (zeroE Ns))] [.pt p 0 (s.cs v), .sl v 4 (tks l)] := H
  repeat' (first | (first|refine zA ?_|refine zB rfl ?_|refine zC ?_|refine zD ?_|refine zE rfl ?_|refine zF ?_|refine zG ?_|refine zH ?_|refine zI ?_|refine zJ ?_|refine zK ?_|refine zL rfl ?_|refine zN rfl ?_) | refine wp_ld (by assumption) (by repeat (first | exact List.Mem.head _ | apply List.Mem.tail)) rfl ?_ | refine wp_len (by assumption) (show Fct.sl v 4 (tks l) ∈ _ by repeat (first | exact List.Mem.head _ | apply List.Mem.tail)) ?_ | rw [Tsk.tks_len] | refine wp_next (by assumption) (by omega) (by omega) (by omega) (by omega) fun _ _ => ?_ | refine wp_ck (by assumption) (by repeat (first | exact List.Mem.head _ | apply List.Mem.tail)) rfl beq_num ?_ | refine wp_ck (by assumption) (by repeat (first | exact List.Mem.head _ | apply List.Mem.tail)) rfl (Ex.beq_sl (Cx.rh (by assumption) _ (show Fct.sl v 4 (tks l) ∈ _ by repeat (first | exact List.Mem.head _ | apply List.Mem.tail)))) ?_ | refine wp_st (by assumption) 0 rfl rfl rfl rfl fun _ _ => ?_ | refine wp_add64 (by omega) (by omega) ?_ | refine wp_mul64 (by omega) (by omega) ?_)
  refine wp_loadoa (n := 29) (by assumption) 0 rfl (Nat.le_of_ble_eq_true rfl) ?_
  refine wp_loado (by assumption) 2 rfl rfl ?_
  refine wp_st (by assumption) 3 rfl rfl rfl rfl fun S9 H9 => ?_
  refine wp_cko H9 2 rfl rfl beq_num ?_
  refine wp_ret ⟨.inr rfl, ?_⟩
  refine wp_loadoa (n := 29) H9 3 rfl (Nat.le_of_ble_eq_true rfl) ?_
  refine wp_ret ⟨rfl, u, .inr ⟨hz, tupE ?_ ?_⟩, (((H9.dropAt 0).dropAt 1).dropAt 1).dropRo (by simp)⟩
  · unfold Ex.cs
    repeat' (refine consI (by unfold layE; dsimp only <;> omega) ?_)
    rfl
  · unfold layN layE; dsimp only <;> omega
end
end Go.Abs
namespace Go.Abs
open Go.Proofs
set_option maxRecDepth 100000
set_option linter.unusedVariables false
def Fv (v : AV) : Prop := odd v = false ∧ v.cells = [v]
theorem fvFn {f : Fn} {a b : List AV} : Fv (.fn f a b) := ⟨rfl, rfl⟩
theorem setRange_one {x : List AV} {c : AV} {j : Nat} (hj : j < x.length) : setRange x j [c] = x.set j c := by
  apply List.ext_getElem?
  intro i
  rw [setRange_get (by simp; omega), List.getElem?_set]
  by_cases h : j = i
  · subst h; simp [hj]
  · rw [if_neg (by simp; omega), if_neg h]
section
variable {B0 S : AH} {W : List Nat} {own : List Own} {ro : List Fct} {Q : Post} {k : AV → AC} {v : AV}
theorem Cx.permS (H : Cx B0 W S own ro) {own' : List Own} (h : own.Perm own') : Cx B0 W S own' ro where
  next := H.next
  old := H.old
  oh := fun x hx => H.oh x (h.mem_iff.2 hx)
  oi := fun x hx => H.oi x (h.mem_iff.2 hx)
  od := (h.pairwise_iff (fun {x y} hxy id hy hx => hxy id hx hy)).1 H.od
  rh := H.rh
  ri := fun φ hφ id hid => ⟨(H.ri φ hφ id hid).1, fun x hx => (H.ri φ hφ id hid).2 x (h.mem_iff.2 hx)⟩

/-! ### functions that are known without a body -/
theorem wp_row {M : Mach} (H : Cx B0 W S own ro) (n : Nat) {id j : Nat} {c : List AV} {v : AV} (hm : own[n]? = some (.obj id (.row c))) (hj : c[j]? = some v) (h : wp M (k v) S Q) : wp M (.op (.load 1 false (.ptr id j)) k) S Q := wp_loado H n hm hj h
theorem wp_set1 {M : Mach} (H : Cx B0 W S own ro) (n : Nat) {id j : Nat} {c : List AV} {v : AV} (hm : own[n]? = some (.obj id (.row c))) (hj : j < c.length) (hv : Fv v) (h : ∀ S1, Cx B0 W S1 (own.set n (.obj id (.row (c.set j v)))) ro → wp M (k uv) S1 Q) :
    wp M (.op (.store 1 (.ptr id j) v) k) S Q :=
  wp_store H n hm hv.1 (by rw [hv.2]; rfl) (by omega) fun S1 H1 => h S1 (by rw [hv.2, setRange_one hj] at H1; exact H1)
theorem wp_loadF0 {M : Mach} {id off : Nat} {e : AV} (hp : (Fct.pt id off [e]).holds S) (h : wp M (k e) S Q) : wp M (.op (.load 1 false (.ptr id off)) k) S Q := by
  obtain ⟨c, h1, h2⟩ := pt_get (j := 0) hp rfl
  exact wp_op (e_load1 h1 h2) h
end
theorem e_ptrNil {M : Mach} {S : AH} {t id off : Nat} {n : Bool} (ht : typc M.P t = 1) : evalOp M.P (.eq t n (.ptr id off) Np) S = some (B n, S) := by
  show pur (pEq M.P t n (.ptr id off) Np) S = _
  have : aeq M.P t (.ptr id off) Np = some false := by
    unfold aeq
    rw [ht]
    rfl
  unfold pEq
  rw [this]
  cases n <;> rfl
section
variable {M : Mach} {B0 S : AH} {W : List Nat} {own : List Own} {ro : List Fct} {Q : Post}
theorem wp_rngX (H : Cx B0 W S own ro) {m : Nat} {f : AV} {body : List AV → AC} {kk : AC} {outs : List AV} (hf : ∀ i, f ≠ .yd i) (Done : Option Tag → AH → Prop)
    (hc : ∀ l S1, Cx B0 W S1 (.obj l (.loop .ready none m body) :: own) ro → wpC M f [.yd l] S1 fun _ S' => ∃ st p m' b', S'.get l = some (.loop st p m' b') ∧ st ≠ .busy ∧ ∀ S2, S2.next = S'.next → (∀ j, j ≠ l → S2.get j = S'.get j) → Done p S2)
    (h : ∀ S2, Done none S2 → wp M kk S2 Q) (h' : ∀ t S2, Done (some t) S2 → Q t outs S2) : wp M (.rng m f body kk outs) S Q := by
  refine wp_rng hf (wpC_mono (hc S.next _ (H.addOwn (Grows.new S _) (get_new_same _ _) ?_)) fun v S' ⟨st, p, m', b', h1, h2, h3⟩ => ⟨st, p, m', b', h1, h2, ?_⟩)
  · intro j hj
    simp only [Own.ids, List.mem_singleton] at hj
    subst hj
    exact ⟨Nat.le_refl _, by simp⟩
  · have key := h3 (S'.set S.next (.loop .exhausted p m' b')) rfl fun j hj => by rw [AH.get_set, if_neg hj]
    cases p with
    | none => exact h _ key
    | some t => exact h' t _ key
theorem wpC_ydX (H : Cx B0 W S own ro) (n : Nat) {l m : Nat} {args : List AV} {body : List AV → AC} {R : AV → AH → Prop} (hm : own[n]? = some (.obj l (.loop .ready none m body))) (hl : args.length = m)
    (h : wp M (body (.yd l :: args)) S fun t _ S' => ∃ own' ro', Cx B0 W S' own' ro' ∧ own'[n]? = some (.obj l (.loop .busy none m body)) ∧
      ((t = .normal ∧ ∀ S2, Cx B0 W S2 (own'.set n (.obj l (.loop .ready none m body))) ro' → R (B true) S2) ∨ (t ≠ .normal ∧ ∀ S2, Cx B0 W S2 (own'.set n (.obj l (.loop .done (some t) m body))) ro' → R (B false) S2))) :
    wpC M (.yd l) args S R := by
  refine wpC_yd (H.oh _ (List.mem_of_getElem? hm)) hl (wp_mono h fun t vs S' q => ?_)
  obtain ⟨own', ro', H', hm', hR⟩ := q
  refine ⟨none, m, body, H'.oh _ (List.mem_of_getElem? hm'), ?_⟩
  rcases hR with ⟨rfl, hR⟩ | ⟨ht, hR⟩
  · exact hR _ (H'.setOb hm' _)
  · cases t with
    | normal => exact absurd rfl ht
    | _ => exact hR _ (H'.setOb hm' _)
end
/-! ### mailboxes -/
def mailP (a n r : Int) : Prop := 1 ≤ n ∧ n ≤ 64 ∧ 1 ≤ r ∧ r ≤ 16
instance (a n r : Int) : Decidable (mailP a n r) := inferInstanceAs (Decidable (_ ∧ _))
def mailQ (a n r : Int) : Prop := mailP a n r ∧ 0 ≤ a ∧ a < 4096
instance (a n r : Int) : Decidable (mailQ a n r) := inferInstanceAs (Decidable (_ ∧ _))
theorem sizedM_ok {S : AH} {a n r : Int} : wpC EM (.fn (.func 144) [] []) [.agg [I a, I n, I r]] S fun r' S' => r' = B (decide (mailP a n r)) ∧ Grows S S' := by
  refine wpC_fn (b := Tryz.a144) rfl rfl ?_
  have H : Cx S [] S [] [] := Cx.enter (by simp)
  unfold mailP Tryz.a144 Tryz.a144x1 Tryz.a144x0
  repeat' (first | (first|refine zA ?_|refine zB rfl ?_|refine zC ?_|refine zD ?_|refine zE rfl ?_|refine zF ?_|refine zG ?_|refine zH ?_|refine zI ?_|refine zJ ?_|refine zK ?_|refine zL rfl ?_|refine zN rfl ?_) | refine wp_bind ?_ | refine wp_box (by assumption) rfl fun _ _ _ => ?_ | refine wp_tmpN (by assumption) rfl rfl rfl fun _ _ _ => ?_ | refine wp_ld (by assumption) (by repeat (first | exact List.Mem.head _ | apply List.Mem.tail)) rfl ?_ | refine wp_ldn (by assumption) (by repeat (first | exact List.Mem.head _ | apply List.Mem.tail)) rfl ?_ | refine wp_notT ?_ | refine wp_notF ?_ | (refine wp_ret ?_; show wp EM _ _ _) | refine wp_lss (fun _ => ?_) (fun _ => ?_) | refine wp_gtr (fun _ => ?_) (fun _ => ?_) | refine wp_leq (fun _ => ?_) (fun _ => ?_) | refine wp_geq (fun _ => ?_) (fun _ => ?_) | refine wp_eql (fun _ => ?_) (fun _ => ?_) | refine wp_neq (fun _ => ?_) (fun _ => ?_) | refine wp_add64 (by omega) (by omega) ?_ | refine wp_sub64 (by omega) (by omega) ?_)
  all_goals (first | exact wp_ret ⟨rfl, (congrArg B (decide_eq_true (by omega))).symm, Cx.grows (by assumption)⟩ | exact wp_ret ⟨rfl, (congrArg B (decide_eq_false (by omega))).symm, Cx.grows (by assumption)⟩)
theorem placedM_ok {S : AH} {a n r : Int} : wpC EM (.fn (.func 68) [] []) [.agg [I a, I n, I r]] S fun r' S' => r' = B (decide (mailQ a n r)) ∧ Grows S S' := by
  refine wpC_fn (b := Tryz.a68) rfl rfl ?_
  have H : Cx S [] S [] [] := Cx.enter (by simp)
  unfold Tryz.a68 Tryz.a68x0
  refine wp_box H rfl fun p S1 H => ?_
  refine wp_ldn H (by repeat (first | exact List.Mem.head _ | apply List.Mem.tail)) rfl ?_
  refine wp_callV H (sizedM_ok (a := a) (n := n) (r := r)) fun S2 H => ?_
  by_cases h : mailP a n r
  · rw [decide_eq_true h]
    have h0 := h
    repeat' (first | (first|refine zA ?_|refine zB rfl ?_|refine zC ?_|refine zD ?_|refine zE rfl ?_|refine zF ?_|refine zG ?_|refine zH ?_|refine zI ?_|refine zJ ?_|refine zK ?_|refine zL rfl ?_|refine zN rfl ?_) | refine wp_bind ?_ | refine wp_box (by assumption) rfl fun _ _ _ => ?_ | refine wp_tmpN (by assumption) rfl rfl rfl fun _ _ _ => ?_ | refine wp_ld (by assumption) (by repeat (first | exact List.Mem.head _ | apply List.Mem.tail)) rfl ?_ | refine wp_ldn (by assumption) (by repeat (first | exact List.Mem.head _ | apply List.Mem.tail)) rfl ?_ | refine wp_notT ?_ | refine wp_notF ?_ | (refine wp_ret ?_; show wp EM _ _ _) | refine wp_lss (fun _ => ?_) (fun _ => ?_) | refine wp_gtr (fun _ => ?_) (fun _ => ?_) | refine wp_leq (fun _ => ?_) (fun _ => ?_) | refine wp_geq (fun _ => ?_) (fun _ => ?_) | refine wp_eql (fun _ => ?_) (fun _ => ?_) | refine wp_neq (fun _ => ?_) (fun _ => ?_) | refine wp_add64 (by omega) (by omega) ?_ | refine wp_sub64 (by omega) (by omega) ?_)
    all_goals first
      | exact wp_ret ⟨rfl, (congrArg B (decide_eq_true (p := mailQ a n r) ⟨h0, by omega, by omega⟩)).symm, Cx.grows (by assumption)⟩
      | exact wp_ret ⟨rfl, (congrArg B (decide_eq_false (p := mailQ a n r) (fun q => by have := q.2; omega))).symm, Cx.grows (by assumption)⟩
  · rw [decide_eq_false h, decide_eq_false (p := mailQ a n r) (fun q => h q.1)]
    try(refine zz ?_;(repeat constructor);intro _)
    exact wp_ret ⟨rfl, rfl, H.grows⟩
def ringAt (a r c : Int) : Int := a + c * (r + 2)
def ringCs (a r c : Int) : List AV := [I (ringAt a r c), I (ringAt a r c + 1), I (ringAt a r c + 2), I r]
theorem ringAt_bd {a n r c : Int} (h : mailQ a n r) (h0 : 0 ≤ c) (h1 : c < n) : 0 ≤ c * (r + 2) ∧ c * (r + 2) ≤ 1152 ∧ 0 ≤ ringAt a r c ∧ ringAt a r c ≤ 5247 := by
  unfold mailQ mailP at h
  have := mul_bd (a := c) (b := r + 2) (A := 64) (C := 18) (by omega) (by omega) (by omega) (by omega)
  unfold ringAt; omega
theorem boxM_ok {S : AH} {a n r c : Int} (h : mailQ a n r) (h0 : 0 ≤ c) (h1 : c < n) : wpC EM (.fn (.func 83) [] []) [.agg [I a, I n, I r], I c] S fun r' S' => r' = .tup [.agg (ringCs a r c), B true] ∧ Grows S S' := by
  refine wpC_fn (b := Tryz.a83) rfl rfl ?_
  have H : Cx S [] S [] [] := Cx.enter (by simp)
  have hq := h
  obtain ⟨cn, rfl⟩ : ∃ k : Nat, c = (k : Int) := ⟨c.toNat, by omega⟩
  unfold mailQ mailP at h
  unfold Tryz.a83 Tryz.a83x6 Tryz.a83x5 Tryz.a83x4 Tryz.a83x3 Tryz.a83x2 Tryz.a83x1 Tryz.a83x0
  refine wp_fin ?_
  refine wp_box H rfl fun p S1 H => ?_
  refine wp_box H rfl fun pc S1 H => ?_
  refine wp_alloc H fun q S2 H => ?_
  refine wp_alloc H fun t S2 H => ?_
  refine wp_ldn H (by repeat (first | exact List.Mem.head _ | apply List.Mem.tail)) rfl ?_
  refine wp_callV H (placedM_ok (a := a) (n := n) (r := r)) fun S3 H => ?_
  rw [decide_eq_true hq]
  refine wp_notT ?_
  try(refine zz ?_;(repeat constructor);intro _)
  refine wp_ldn H (by repeat (first | exact List.Mem.head _ | apply List.Mem.tail)) rfl ?_
  refine wp_call (wpC_fn (b := Tryz.a149) rfl rfl ?_)
  unfold Tryz.a149
  refine wp_box H rfl fun pm S4 H => ?_
  refine wp_ret ⟨rfl, ?_⟩
  show wp EM _ _ _
  refine wp_bind (wp_rngX (Done := fun pd S' => pd = some .ret ∧ ∃ ro', Cx S [] S' [.obj t (.row [B true]), .obj q (.row (ringCs a r cn))] ro') H (by intro i e; cases e) ?_ ?_ ?_)
  · intro l S5 H
    refine wpC_fn (b := Tryz.a231) rfl rfl ?_
    unfold Tryz.a231 Tryz.a231x4 Tryz.a231x3 Tryz.a231x2 Tryz.a231x1 Tryz.a231x0
    try(refine zz ?_;(repeat constructor);intro _)
    refine wp_ld H (by repeat (first | exact List.Mem.head _ | apply List.Mem.tail)) rfl ?_
    have HL := H
    clear H
    have hyd : ∀ (i : Nat) S6 (ro' : List Fct), i ≤ cn → Fct.pt pc 0 [I (cn : Int)] ∈ ro' → Cx S [] S6 [.obj l (.loop .ready none 2 fun v10 => Tryz.a83x3 (.ptr pc 0) (.ptr q 0) (.ptr t 0) v10), .obj t (.row [B false]), .obj q (.row [I 0, I 0, I 0, I 0])] ro' →
        wpC EM (.yd l) [I (i : Int), .agg (ringCs a r i)] S6 fun v S' => (i < cn ∧ v = B true ∧ Cx S [] S' [.obj l (.loop .ready none 2 fun v10 => Tryz.a83x3 (.ptr pc 0) (.ptr q 0) (.ptr t 0) v10), .obj t (.row [B false]), .obj q (.row [I 0, I 0, I 0, I 0])] ro') ∨ (i = cn ∧ v = B false ∧ Cx S [] S' [.obj l (.loop .done (some .ret) 2 fun v10 => Tryz.a83x3 (.ptr pc 0) (.ptr q 0) (.ptr t 0) v10), .obj t (.row [B true]), .obj q (.row (ringCs a r cn))] ro') := by
      intro i S6 ro' hi hpc H
      refine wpC_ydX H 0 rfl rfl ?_
      unfold Tryz.a83x3 Tryz.a83x2 Tryz.a83x1
      refine wp_alloc H fun z S7 H => ?_
      refine wp_store (n := 4) H 0 (c := [I 0, I 0, I 0, I 0]) rfl rfl rfl (by simp) fun S8 H => ?_
      have H : Cx S [] S8 [.obj z (.row (ringCs a r i)), .obj l (.loop .ready none 2 fun v10 => Tryz.a83x3 (.ptr pc 0) (.ptr q 0) (.ptr t 0) v10), .obj t (.row [B false]), .obj q (.row [I 0, I 0, I 0, I 0])] ro' := H
      refine wp_startO H 1 rfl fun S9 H => ?_
      refine wp_bind ?_
      refine wp_ld H hpc rfl ?_
      by_cases e : i = cn
      · refine wp_eql_t (by omega) ?_
        try(refine zz ?_;(repeat constructor);intro _)
        refine wp_loadoa (n := 4) H 0 rfl (by simp [ringCs]) ?_
        refine wp_store (n := 4) H 3 (c := [I 0, I 0, I 0, I 0]) rfl rfl rfl (by simp) fun S10 H => ?_
        refine wp_store (n := 1) H 2 (c := [B false]) rfl rfl rfl (by simp) fun S11 H => ?_
        refine wp_ret ⟨_, _, H.dropAt 0, rfl, .inr ⟨by simp, fun S2 H => .inr ⟨e, rfl, ?_⟩⟩⟩
        rw [← e]
        exact H
      · refine wp_eql_f (by omega) ?_
        try(refine zz ?_;(repeat constructor);intro _)
        refine wp_ret ?_
        show wp EM _ _ _
        refine wp_ret ⟨_, _, H.dropAt 0, rfl, .inl ⟨rfl, fun S2 H => .inl ⟨by omega, rfl, H⟩⟩⟩
    have bd := fun (i : Nat) (hi : i ≤ cn) => ringAt_bd (c := (i : Int)) hq (by omega) (by omega)
    refine wp_bind (wp_loop (wpL_for cn (fun i vs S' => vs = [I (i : Int)] ∧ Cx S [] S' [.obj l (.loop .ready none 2 fun v10 => Tryz.a83x3 (.ptr pc 0) (.ptr q 0) (.ptr t 0) v10), .obj t (.row [B false]), .obj q (.row [I 0, I 0, I 0, I 0])] _) ?_ ?_ ⟨rfl, HL⟩))
    · rintro i vs S6 hi ⟨rfl, H⟩
      obtain ⟨m1, m2, m3, m4⟩ := bd i (by omega)
      refine wp_lss_t (by omega) ?_
      try(refine zz ?_;(repeat constructor);intro _)
      refine wp_bind ?_
      try(refine zz ?_;(repeat constructor);intro _)
      refine wp_ld H (by repeat (first | exact List.Mem.head _ | apply List.Mem.tail)) rfl ?_
      try(refine zz ?_;(repeat constructor);intro _)
      refine wp_ld H (by repeat (first | exact List.Mem.head _ | apply List.Mem.tail)) rfl ?_
      refine wp_add64 (by omega) (by omega) ?_
      refine wp_mul64 (by omega) (by omega) ?_
      refine wp_add64 (by omega) (by omega) ?_
      have e : a + (i : Int) * (r + 2) = ringAt a r i := rfl
      rw [e]
      refine wp_add64 (by omega) (by omega) ?_
      refine wp_add64 (by omega) (by omega) ?_
      try(refine zz ?_;(repeat constructor);intro _)
      refine wp_ld H (by repeat (first | exact List.Mem.head _ | apply List.Mem.tail)) rfl ?_
      refine wp_op (v := .agg (ringCs a r i)) rfl ?_
      refine wp_call (wpC_mono (hyd i S6 _ (by omega) (by repeat (first | exact List.Mem.head _ | apply List.Mem.tail)) H) fun v S7 q => ?_)
      rcases q with ⟨_, rfl, H⟩ | ⟨e, _⟩
      · refine wp_notT ?_
        try(refine zz ?_;(repeat constructor);intro _)
        refine wp_ret ?_
        show wp EM _ _ _
        refine wp_add64 (by omega) (by omega) ?_
        exact wp_ret (.inl ⟨rfl, rfl, H⟩)
      · omega
    · rintro vs S6 ⟨rfl, H⟩
      obtain ⟨m1, m2, m3, m4⟩ := bd cn (by omega)
      refine wp_lss_t (by omega) ?_
      try(refine zz ?_;(repeat constructor);intro _)
      refine wp_bind ?_
      try(refine zz ?_;(repeat constructor);intro _)
      refine wp_ld H (by repeat (first | exact List.Mem.head _ | apply List.Mem.tail)) rfl ?_
      try(refine zz ?_;(repeat constructor);intro _)
      refine wp_ld H (by repeat (first | exact List.Mem.head _ | apply List.Mem.tail)) rfl ?_
      refine wp_add64 (by omega) (by omega) ?_
      refine wp_mul64 (by omega) (by omega) ?_
      refine wp_add64 (by omega) (by omega) ?_
      have e : a + (cn : Int) * (r + 2) = ringAt a r cn := rfl
      rw [e]
      refine wp_add64 (by omega) (by omega) ?_
      refine wp_add64 (by omega) (by omega) ?_
      try(refine zz ?_;(repeat constructor);intro _)
      refine wp_ld H (by repeat (first | exact List.Mem.head _ | apply List.Mem.tail)) rfl ?_
      refine wp_op (v := .agg (ringCs a r cn)) rfl ?_
      refine wp_call (wpC_mono (hyd cn S6 _ (by omega) (by repeat (first | exact List.Mem.head _ | apply List.Mem.tail)) H) fun v S7 q => ?_)
      rcases q with ⟨e, _⟩ | ⟨_, rfl, H⟩
      · omega
      · refine wp_notF ?_
        try(refine zz ?_;(repeat constructor);intro _)
        refine wp_ret ⟨by simp, rfl, .done, some .ret, 2, _, H.oh _ (List.Mem.head _), by simp, fun S2 g1 g2 => ⟨rfl, _, H.other (n := 0) rfl g1 g2⟩⟩
  · rintro S5 ⟨e, _⟩; cases e
  · rintro tg S5 ⟨e, ro', H⟩
    cases e
    refine ⟨.inr rfl, ?_⟩
    refine wp_loadoa (n := 4) H 1 rfl (by simp [ringCs]) ?_
    refine wp_row (j := 0) H 0 rfl rfl ?_
    exact wp_ret ⟨rfl, rfl, H.grows⟩
end Go.Abs
