/- functions of this cut: what they compute, in the abstract machine. Conditions: stated in each theorem -/
import Derived.Test.YtegdfgoanklohaaT
import Derived.Test.YtegdfgoanklohaaAc
set_option linter.unusedVariables false
set_option linter.unusedSimpArgs false
namespace Go.Abs
section
variable {M : Mach} {S : AH} {Q : Post} {k : AV → AC}
theorem zA {g : Bool} {o : AOp} (h : wp M (.op o k) S Q) : wp M (.gop (B g) g o k) S Q := wp_gop_t h
theorem zB {g g' : Bool} {o : AOp} (hg : g' = !g) (h : wp M (k uv) S Q) : wp M (.gop (B g) g' o k) S Q := wp_gop_f hg h
theorem zC {g' : Bool} {o : AOp} (h : wp M (k uv) S Q) : wp M (.gop uv g' o k) S Q := wp_gop_u h
theorem zD {g : Bool} {f : AV} {args : List AV} (h : wp M (.call f args k) S Q) : wp M (.gcall (B g) g f args k) S Q := wp_gcall_t h
theorem zE {g g' : Bool} {f : AV} {args : List AV} (hg : g' = !g) (h : wp M (k uv) S Q) : wp M (.gcall (B g) g' f args k) S Q := wp_gcall_f hg h
theorem zF {g' : Bool} {f : AV} {args : List AV} (h : wp M (k uv) S Q) : wp M (.gcall uv g' f args k) S Q := wp_gcall_u h
theorem zG {x y : AC} (h : wp M x S Q) : wp M (.ite (B true) x y) S Q := wp_ite_t h
theorem zH {x y : AC} (h : wp M y S Q) : wp M (.ite (B false) x y) S Q := wp_ite_f h
theorem zI {id off f : Nat} (h : wp M (k (.ptr id (Nat.add off f))) S Q) : wp M (.op (.faddr f (.ptr id off)) k) S Q := wp_faddr h
theorem zJ {id off : Nat} (h : wp M (k (.ptr id off)) S Q) : wp M (.op (.nilchk (.ptr id off)) k) S Q := wp_nilchk h
theorem zK {x : AV} (h : wp M (k x) S Q) : wp M (.op (.mv x) k) S Q := wp_op rfl h
theorem zL {c a b v : AV} (he : pPick c a b = some v) (h : wp M (k v) S Q) : wp M (.op (.pick c a b) k) S Q := wp_op (by show pur (pPick c a b) S = _; rw [he]; rfl) h
theorem zN {i : Nat} {x v : AV} (he : pExtract i x = some v) (h : wp M (k v) S Q) : wp M (.op (.extract i x) k) S Q := wp_op (by show pur (pExtract i x) S = _; rw [he]; rfl) h
end
end Go.Abs
namespace Go.Abs
open Go.Proofs
set_option maxRecDepth 100000
set_option linter.unusedVariables false
/-- statements of the model: its awake is known -/
noncomputable def EM : Mach := ⟨Try.prog, Try.tbl, ⟨knV [(6, .bool true)], noKn.x⟩⟩


/-! ### numbers -/
def cmpI (a b : Int) : Int := if a < b then -1 else if b < a then 1 else 0
theorem nan_ok {S : AH} {a : Int} : wpC EM (.fn (.func 65) [] []) [I a] S fun r S' => r = B false ∧ Grows S S' := by
  refine wpC_fn (b := Try.a65) rfl rfl ?_
  unfold Try.a65
  refine wp_neq_f rfl ?_
  exact wp_ret ⟨rfl, rfl, Grows.refl _⟩
theorem compare_ok {S : AH} {a b : Int} : wpC EM (.fn (.func 49) [] []) [I a, I b] S fun r S' => r = I (cmpI a b) ∧ Grows S S' := by
  refine wpC_fn (b := Try.a49) rfl rfl ?_
  have H : Cx S [] S [] [] := Cx.enter (by simp)
  unfold Try.a49 cmpI
  refine wp_callV H nan_ok fun S1 H => ?_
  refine wp_callV H nan_ok fun S2 H => ?_
  repeat (first|refine zA ?_|refine zB rfl ?_|refine zC ?_|refine zD ?_|refine zE rfl ?_|refine zF ?_|refine zG ?_|refine zH ?_|refine zI ?_|refine zJ ?_|refine zK ?_|refine zL rfl ?_|refine zN rfl ?_)
  refine wp_lss (fun h => ?_) (fun h => ?_)
  · rw [if_pos h]
    repeat (first|refine zA ?_|refine zB rfl ?_|refine zC ?_|refine zD ?_|refine zE rfl ?_|refine zF ?_|refine zG ?_|refine zH ?_|refine zI ?_|refine zJ ?_|refine zK ?_|refine zL rfl ?_|refine zN rfl ?_)
    exact wp_ret ⟨rfl, rfl, H.grows⟩
  rw [if_neg (by omega)]
  repeat (first|refine zA ?_|refine zB rfl ?_|refine zC ?_|refine zD ?_|refine zE rfl ?_|refine zF ?_|refine zG ?_|refine zH ?_|refine zI ?_|refine zJ ?_|refine zK ?_|refine zL rfl ?_|refine zN rfl ?_)
  refine wp_gtr (fun h2 => ?_) (fun h2 => ?_)
  · rw [if_pos h2]
    repeat (first|refine zA ?_|refine zB rfl ?_|refine zC ?_|refine zD ?_|refine zE rfl ?_|refine zF ?_|refine zG ?_|refine zH ?_|refine zI ?_|refine zJ ?_|refine zK ?_|refine zL rfl ?_|refine zN rfl ?_)
    exact wp_ret ⟨rfl, rfl, H.grows⟩
  · rw [if_neg (by omega)]
    repeat (first|refine zA ?_|refine zB rfl ?_|refine zC ?_|refine zD ?_|refine zE rfl ?_|refine zF ?_|refine zG ?_|refine zH ?_|refine zI ?_|refine zJ ?_|refine zK ?_|refine zL rfl ?_|refine zN rfl ?_)
    exact wp_ret ⟨rfl, rfl, H.grows⟩
def orI : List Int → Int
  | [] => 0
  | a :: l => if a ≠ 0 then a else orI l
theorem orI_drop {l : List Int} {i : Nat} (h : i < l.length) : orI (l.drop i) = if l[i] ≠ 0 then l[i] else orI (l.drop (i + 1)) := by
  rw [List.drop_eq_getElem_cons h]; rfl
theorem or_ok {S : AH} {v : AV} {l : List Int} (hv : RoSl S v 1 (ints l)) (hl : l.length < 1000000) : wpC EM (.fn (.func 47) [] []) [v] S fun r S' => r = I (orI l) ∧ Grows S S' := by
  refine wpC_fn (b := Try.a47) rfl rfl ?_
  have H := Cx.ro1 hv
  unfold Try.a47
  refine wp_len H (by repeat (first | exact List.Mem.head _ | apply List.Mem.tail)) ?_
  rw [ints_len]
  refine wp_bind (wp_loop (wpL_inv (fun m vs S1 => ∃ (i : Nat) (u : AV), vs = [I (i : Int), u] ∧ i ≤ l.length ∧ m = l.length - i ∧ orI l = orI (l.drop i) ∧ Cx S [] S1 [] [.sl v 1 (ints l)]) ?_ l.length ⟨0, _, rfl, by omega, by omega, rfl, H⟩))
  rintro m vs S1 ⟨i, u, rfl, hi, rfl, he, H⟩
  refine wp_lss (fun hlt => ?_) (fun hge => ?_)
  · have hlt : i < l.length := by omega
    repeat (first|refine zA ?_|refine zB rfl ?_|refine zC ?_|refine zD ?_|refine zE rfl ?_|refine zF ?_|refine zG ?_|refine zH ?_|refine zI ?_|refine zJ ?_|refine zK ?_|refine zL rfl ?_|refine zN rfl ?_)
    refine wp_bind ?_
    refine wp_saddr (i := i) (x := [I l[i]]) H (by repeat (first | exact List.Mem.head _ | apply List.Mem.tail)) (by simp [ints, hlt]) fun p off H1 => ?_
    refine wp_load0 H1 (by repeat (first | exact List.Mem.head _ | apply List.Mem.tail)) rfl ?_
    rw [orI_drop hlt] at he
    refine wp_neq (fun hne => ?_) (fun hz => ?_)
    · repeat (first|refine zA ?_|refine zB rfl ?_|refine zC ?_|refine zD ?_|refine zE rfl ?_|refine zF ?_|refine zG ?_|refine zH ?_|refine zI ?_|refine zJ ?_|refine zK ?_|refine zL rfl ?_|refine zN rfl ?_)
      rw [if_pos hne] at he
      exact wp_ret (.inr ⟨by simp, rfl, by rw [he]; rfl, H.grows⟩)
    · repeat (first|refine zA ?_|refine zB rfl ?_|refine zC ?_|refine zD ?_|refine zE rfl ?_|refine zF ?_|refine zG ?_|refine zH ?_|refine zI ?_|refine zJ ?_|refine zK ?_|refine zL rfl ?_|refine zN rfl ?_)
      rw [if_neg (by simpa using hz)] at he
      refine wp_ret ?_
      show wp EM _ _ _
      exact wp_add64 (by omega) (by omega) (wp_ret (.inl ⟨rfl, l.length - (i + 1), by omega, i + 1, _, rfl, by omega, rfl, he, H⟩))
  · repeat (first|refine zA ?_|refine zB rfl ?_|refine zC ?_|refine zD ?_|refine zE rfl ?_|refine zF ?_|refine zG ?_|refine zH ?_|refine zI ?_|refine zJ ?_|refine zK ?_|refine zL rfl ?_|refine zN rfl ?_)
    refine wp_ret (.inr ⟨by simp, wp_ret ⟨rfl, ?_, H.grows⟩⟩)
    rw [List.drop_of_length_le (by omega)] at he
    rw [he]; rfl
section
variable {M : Mach} {B0 S : AH} {W : List Nat} {own : List Own} {ro : List Fct} {Q : Post} {k : AV → AC} {κ κ' : IntKind}
theorem e_shr {a b : Int} (hb : 0 ≤ b) : evalOp M.P (.bin .shr (Z κ a) (Z κ' b)) S = some (Z κ (a.fdiv (2 ^ (min b.toNat κ.bits))), S) := by
  show pur (bShr (Z κ a) (Z κ' b)) S = _
  have : ltF b 0 = false := by rw [ltF_eq]; simpa using hb
  unfold bShr
  simp only [this]
  rfl
theorem shr_nat {n s : Nat} : ((n : Int).fdiv (2 ^ s)) = ((n / 2 ^ s : Nat) : Int) := by
  have : ((2 : Int) ^ s) = ((2 ^ s : Nat) : Int) := by simp
  rw [this, Int.ofNat_fdiv]
theorem wp_shrU {n s : Nat} (hn : n ≤ 18446744073709551615) (hs : s ≤ 64) (h : wp M (k (U ((n / 2 ^ s : Nat) : Int))) S Q) : wp M (.op (.bin .shr (U (n : Int)) (Z κ' (s : Int))) k) S Q := by
  refine wp_op (e_shr (by omega)) ?_
  have e : min (s : Int).toNat IntKind.u64.bits = s := by show min (s : Int).toNat 64 = s; omega
  rw [e, shr_nat]; exact h
theorem wp_shrI {n s : Nat} (hn : n ≤ 9223372036854775807) (hs : s ≤ 64) (h : wp M (k (I ((n / 2 ^ s : Nat) : Int))) S Q) : wp M (.op (.bin .shr (I (n : Int)) (Z κ' (s : Int))) k) S Q := by
  refine wp_op (e_shr (by omega)) ?_
  have e : min (s : Int).toNat IntKind.i64.bits = s := by show min (s : Int).toNat 64 = s; omega
  rw [e, shr_nat]; exact h
theorem wp_conv {a c : Int} (hw : wrapF κ a = c) (h : wp M (k (Z κ c)) S Q) : wp M (.op (.conv κ (Z κ' a)) k) S Q := wp_op (v := Z κ c) (by show pur (pConv κ (Z κ' a)) S = _; rw [← hw]; rfl) h
/-- a new list of two numbers -/
theorem wp_two (H : Cx B0 W S own ro) {x y : AV} (hx : odd x = false) (hy : odd y = false) (lx : x.cells = [x]) (ly : y.cells = [y]) (h : ∀ v S1, Cx B0 W S1 own (.sl v 1 [[x], [y]] :: ro) → wp M (k v) S1 Q) :
    wp M (.op (.bslice 1 2 [I 0] [(0, 1, x), (1, 1, y)]) k) S Q := by
  refine wp_op (v := .sl S.next 0 2 2) (S1 := S.new (.row [x, y])) ?_ (h _ _ (H.addNewRo (Grows.new S _) (φ := .sl (.sl S.next 0 2 2) 1 [[x], [y]]) ?_ ?_))
  · show nBslice 1 2 [I 0] [(0, 1, x), (1, 1, y)] S = _
    unfold nBslice
    have e1 : fillP (repZero [I 0] 2) [(0, 1, x), (1, 1, y)] = some [x, y] := by
      simp only [fillP, hx, hy, lx, ly]
      rfl
    rw [e1]
    rfl
  · exact .inr ⟨S.next, 0, [x, y], .inl ⟨2, by simp, by simp, rfl⟩, row_cells (get_new_same _ _), by simp, by simp⟩
  · intro id hid
    simp only [Fct.ids, vids, List.mem_singleton] at hid
    subst hid
    exact ⟨Nat.le_refl _, by simp [AH.new]⟩
end
end Go.Abs
namespace Go.Abs
open Go.Proofs
set_option maxRecDepth 100000
set_option linter.unusedVariables false
/-! ### live jobs, their order, and what a stable sort makes of them -/
structure Lv where
  job : Int
  st : Int
  core : Int
  key : Int
def Lv.cs (x : Lv) : List AV := [I x.job, I x.st, I x.core, U x.key]
def lvs (l : List Lv) : List (List AV) := l.map Lv.cs
theorem lvs_len (l : List Lv) : (lvs l).length = l.length := List.length_map ..
theorem lvs_get {l : List Lv} {i : Nat} (h : i < l.length) : (lvs l)[i]? = some l[i].cs := by simp [lvs, h]
theorem lvs_all (l : List Lv) : ∀ x ∈ lvs l, x.length = 4 := by intro x hx; obtain ⟨f, _, rfl⟩ := List.mem_map.1 hx; rfl
theorem lvs_app (a b : List Lv) : lvs (a ++ b) = lvs a ++ lvs b := List.map_append ..
theorem lvs_set (l : List Lv) (i : Nat) (x : Lv) : (lvs l).set i x.cs = lvs (l.set i x) := by unfold lvs; rw [List.map_set]
def Lv.lt (a b : Lv) : Prop := a.key < b.key ∨ a.key = b.key ∧ a.job < b.job
instance (a b : Lv) : Decidable (Lv.lt a b) := inferInstanceAs (Decidable (_ ∨ _))
theorem Lv.lt_irrefl (a : Lv) : ¬ a.lt a := by unfold Lv.lt; omega
theorem Lv.lt_trans {a b c : Lv} (h : a.lt b) (k : b.lt c) : a.lt c := by unfold Lv.lt at *; omega
theorem Lv.lt_le {a b c : Lv} (h : a.lt b) (k : ¬ c.lt b) : a.lt c := by unfold Lv.lt at *; omega
theorem Lv.le_lt {a b c : Lv} (h : ¬ b.lt a) (k : b.lt c) : a.lt c := by unfold Lv.lt at *; omega
theorem Lv.le_le {a b c : Lv} (h : ¬ b.lt a) (k : ¬ c.lt b) : ¬ c.lt a := by unfold Lv.lt at *; omega
theorem Lv.lt_asymm {a b : Lv} (h : a.lt b) : ¬ b.lt a := by unfold Lv.lt at *; omega
/-- in order: nobody is ahead of those that stand ahead of it -/
abbrev Srt (l : List Lv) : Prop := l.Pairwise fun a b => ¬ b.lt a
/-- those that stand alike -/
def cls (k j : Int) (l : List Lv) : List Lv := l.filter fun x => x.key == k && x.job == j
theorem cls_app (k j : Int) (a b : List Lv) : cls k j (a ++ b) = cls k j a ++ cls k j b := List.filter_append ..
theorem mem_cls {k j : Int} {x : Lv} {l : List Lv} : x ∈ cls k j l ↔ x ∈ l ∧ x.key = k ∧ x.job = j := by simp [cls, List.mem_filter]
/-- the same ones, in order, alike ones as they stood -/
def StS (l m : List Lv) : Prop := Srt m ∧ ∀ k j, cls k j m = cls k j l
theorem cls_cons (k j : Int) (x : Lv) (l : List Lv) : cls k j (x :: l) = if x.key = k ∧ x.job = j then x :: cls k j l else cls k j l := by
  unfold cls
  by_cases h : x.key = k ∧ x.job = j
  · rw [if_pos h, List.filter_cons_of_pos (by simp [h])]
  · rw [if_neg h, List.filter_cons_of_neg (by simpa using h)]
theorem srt_ext : ∀ {a b : List Lv}, Srt a → Srt b → (∀ k j, cls k j a = cls k j b) → a = b
  | [], [], _, _, _ => rfl
  | [], y :: b, _, _, h => by have := h y.key y.job; rw [cls_cons, if_pos ⟨rfl, rfl⟩] at this; cases this
  | x :: a, [], _, _, h => by have := h x.key x.job; rw [cls_cons, if_pos ⟨rfl, rfl⟩] at this; cases this
  | x :: a, y :: b, ha, hb, h => by
    have ha' := List.pairwise_cons.1 ha
    have hb' := List.pairwise_cons.1 hb
    have hx := h x.key x.job
    have hy := h y.key y.job
    have hxy : ¬ y.lt x := by
      have : y ∈ cls y.key y.job (x :: a) := by rw [hy, cls_cons, if_pos ⟨rfl, rfl⟩]; simp
      rcases List.mem_cons.1 (mem_cls.1 this).1 with rfl | hm
      · exact Lv.lt_irrefl _
      · exact ha'.1 y hm
    have hyx : ¬ x.lt y := by
      have : x ∈ cls x.key x.job (y :: b) := by rw [← hx, cls_cons, if_pos ⟨rfl, rfl⟩]; simp
      rcases List.mem_cons.1 (mem_cls.1 this).1 with rfl | hm
      · exact Lv.lt_irrefl _
      · exact hb'.1 x hm
    have hk : y.key = x.key ∧ y.job = x.job := by unfold Lv.lt at hxy hyx; omega
    rw [cls_cons, if_pos ⟨rfl, rfl⟩, cls_cons, if_pos hk] at hx
    obtain ⟨rfl, _⟩ := List.cons.inj hx
    congr 1
    refine srt_ext ha'.2 hb'.2 fun k j => ?_
    have := h k j
    rw [cls_cons, cls_cons] at this
    split at this
    · exact (List.cons.inj this).2
    · exact this
theorem StS.uniq {l a b : List Lv} (ha : StS l a) (hb : StS l b) : a = b := srt_ext ha.1 hb.1 fun k j => (ha.2 k j).trans (hb.2 k j).symm
theorem StS.mem {l m : List Lv} (h : StS l m) {x : Lv} : x ∈ m ↔ x ∈ l := by
  have := h.2 x.key x.job
  constructor
  · intro hx
    have : x ∈ cls x.key x.job l := by rw [← this]; exact mem_cls.2 ⟨hx, rfl, rfl⟩
    exact (mem_cls.1 this).1
  · intro hx
    have : x ∈ cls x.key x.job m := by rw [this]; exact mem_cls.2 ⟨hx, rfl, rfl⟩
    exact (mem_cls.1 this).1
theorem StS.app {l1 l2 m1 m2 : List Lv} (h1 : StS l1 m1) (h2 : StS l2 m2) (h : ∀ x ∈ l1, ∀ y ∈ l2, ¬ y.lt x) : StS (l1 ++ l2) (m1 ++ m2) := by
  refine ⟨List.pairwise_append.2 ⟨h1.1, h2.1, fun x hx y hy => h x (h1.mem.1 hx) y (h2.mem.1 hy)⟩, fun k j => ?_⟩
  rw [cls_app, cls_app, h1.2, h2.2]
theorem StS.perm {l l' m : List Lv} (h : StS l m) (he : ∀ k j, cls k j l' = cls k j l) : StS l' m := ⟨h.1, fun k j => (h.2 k j).trans (he k j).symm⟩
theorem StS.self {l : List Lv} (h : Srt l) : StS l l := ⟨h, fun _ _ => rfl⟩
theorem StS.trans {l m n : List Lv} (h : StS l m) (k : StS m n) : StS l n := ⟨k.1, fun a b => (k.2 a b).trans (h.2 a b)⟩
/-- where one is strictly ahead of all of the others, nothing is alike -/
theorem cls_swap {a b : List Lv} (h : ∀ x ∈ a, ∀ y ∈ b, y.lt x) (k j : Int) : cls k j (b ++ a) = cls k j (a ++ b) := by
  rw [cls_app, cls_app]
  cases ha : cls k j a with
  | nil => simp
  | cons x r =>
    have hx : x ∈ cls k j a := by rw [ha]; simp
    have hb : cls k j b = [] := by
      refine List.filter_eq_nil_iff.2 fun y hy => ?_
      have h1 := h x (mem_cls.1 hx).1 y hy
      have h2 := (mem_cls.1 hx).2
      simp only [Bool.and_eq_true, beq_iff_eq, not_and]
      intro h3 h4
      unfold Lv.lt at h1
      omega
    rw [hb]; simp
theorem Srt.take {l : List Lv} (h : Srt l) (n : Nat) : Srt (l.take n) := h.sublist (List.take_sublist _ _)
theorem Srt.drop {l : List Lv} (h : Srt l) (n : Nat) : Srt (l.drop n) := h.sublist (List.drop_sublist _ _)
/-- one more is laid into those that are in order, behind those that are alike -/
theorem StS.insert {l a b : List Lv} {x : Lv} (h : StS l (a ++ b)) (h1 : ∀ y ∈ a, ¬ x.lt y) (h2 : ∀ y ∈ b, x.lt y) : StS (l ++ [x]) (a ++ x :: b) := by
  have hs := List.pairwise_append.1 h.1
  refine ⟨List.pairwise_append.2 ⟨hs.1, List.pairwise_cons.2 ⟨fun y hy => Lv.lt_asymm (h2 y hy), hs.2.1⟩, fun y hy z hz => ?_⟩, fun k j => ?_⟩
  · rcases List.mem_cons.1 hz with rfl | hz
    · exact h1 y hy
    · exact hs.2.2 y hy z hz
  · have e : cls k j (x :: b) = cls k j (b ++ [x]) := cls_swap (a := b) (b := [x]) (fun y hy z hz => by rw [List.mem_singleton.1 hz]; exact h2 y hy) k j
    rw [cls_app, e, ← cls_app, ← List.append_assoc, cls_app, h.2, cls_app]
/-- of two that are in order, with a cut: what is merged on both sides -/
theorem StS.cut {x1 x2 y1 y2 m1 m2 : List Lv} (hx : Srt (x1 ++ x2)) (hy : Srt (y1 ++ y2)) (h1 : StS (x1 ++ y1) m1) (h2 : StS (x2 ++ y2) m2) (ha : ∀ a ∈ x1, ∀ b ∈ y2, ¬ b.lt a) (hb : ∀ a ∈ x2, ∀ b ∈ y1, b.lt a) : StS ((x1 ++ x2) ++ (y1 ++ y2)) (m1 ++ m2) := by
  have px := List.pairwise_append.1 hx
  have py := List.pairwise_append.1 hy
  refine (StS.app h1 h2 ?_).perm fun k j => ?_
  · intro a ha1 b hb1
    rcases List.mem_append.1 ha1 with q1 | q1 <;> rcases List.mem_append.1 hb1 with q2 | q2
    · exact px.2.2 a q1 b q2
    · exact ha a q1 b q2
    · exact Lv.lt_asymm (hb b q2 a q1)
    · exact py.2.2 a q1 b q2
  · have e := cls_swap (a := x2) (b := y1) hb k j
    rw [cls_app, cls_app] at e
    simp only [cls_app]
    rw [List.append_assoc, List.append_assoc, ← List.append_assoc (cls k j x2), ← e, List.append_assoc]
end Go.Abs
namespace Go.Abs
open Go.Proofs
set_option maxRecDepth 100000
set_option linter.unusedVariables false
theorem get_mid {α : Type} (U V : List α) (y : α) : (U ++ y :: V)[U.length]? = some y := by simp
theorem set_mid {α : Type} (U V : List α) (x y : α) : (U ++ y :: V).set U.length x = U ++ x :: V := by simp
section
variable {B0 S : AH} {W : List Nat} {own : List Own} {ro : List Fct} {Q : Post} {k : AV → AC} {v : AV} {L : List Lv}
theorem lvs_get? {i : Nat} {x : Lv} (h : L[i]? = some x) : (lvs L)[i]? = some x.cs := by unfold lvs; rw [List.getElem?_map, h]; rfl
/-- an element of one's own, read and written -/
theorem wp_ownL (H : Cx B0 W S (.sl v 4 (lvs L) :: own) ro) {i : Nat} {x : Lv} (hi : L[i]? = some x) (h : wp EM (k (.agg x.cs)) S Q) : wp EM (.op (.saddr 4 v (I (i : Int))) fun p => .op (.load 4 true p) k) S Q := by
  refine wp_saddro H 0 rfl (lvs_get? hi) fun id off hp => ?_
  have := wp_loadFn (M := EM) (k := k) (S := S) (Q := Q) (j := 0) (n := 4) hp (by show 0 + 4 ≤ 4; omega) h
  exact this
theorem wp_ownS (H : Cx B0 W S (.sl v 4 (lvs L) :: own) ro) {i : Nat} {x : Lv} (hi : i < L.length) (h : ∀ S1, Cx B0 W S1 (.sl v 4 (lvs (L.set i x)) :: own) ro → wp EM (k uv) S1 Q) : wp EM (.op (.saddr 4 v (I (i : Int))) fun p => .op (.store 4 p (.agg x.cs)) k) S Q := by
  refine wp_storeE (i := i) (y := .agg x.cs) H 0 rfl (by rw [lvs_len]; exact hi) rfl rfl fun S1 H1 => h S1 ?_
  have H1 : Cx B0 W S1 (.sl v 4 ((lvs L).set i x.cs) :: own) ro := H1
  rw [lvs_set] at H1
  exact H1
/-- a place, told by its number -/
theorem wp_ownLZ (H : Cx B0 W S (.sl v 4 (lvs L) :: own) ro) {z : Int} {i : Nat} {x : Lv} (hz : z = (i : Int)) (hi : L[i]? = some x) (h : wp EM (k (.agg x.cs)) S Q) : wp EM (.op (.saddr 4 v (I z)) fun p => .op (.load 4 true p) k) S Q := by
  subst hz; exact wp_ownL H hi h
theorem wp_ownSZ (H : Cx B0 W S (.sl v 4 (lvs L) :: own) ro) {z : Int} {i : Nat} {x : Lv} (hz : z = (i : Int)) (hi : i < L.length) (h : ∀ S1, Cx B0 W S1 (.sl v 4 (lvs (L.set i x)) :: own) ro → wp EM (k uv) S1 Q) : wp EM (.op (.saddr 4 v (I z)) fun p => .op (.store 4 p (.agg x.cs)) k) S Q := by
  subst hz; exact wp_ownS H hi h
theorem wp_ownN (H : Cx B0 W S own ro) (n : Nat) (hm : own[n]? = some (.sl v 4 (lvs L))) {i : Nat} {x : Lv} (hi : L[i]? = some x) (h : wp EM (k (.agg x.cs)) S Q) : wp EM (.op (.saddr 4 v (I (i : Int))) fun p => .op (.load 4 true p) k) S Q := by
  refine wp_saddro H n hm (lvs_get? hi) fun id off hp => ?_
  have := wp_loadFn (M := EM) (k := k) (S := S) (Q := Q) (j := 0) (n := 4) hp (by show 0 + 4 ≤ 4; omega) h
  exact this
/-- the same, within what is asked of both -/
theorem wp_ownG (H : Cx B0 W S (.sl v 4 (lvs L) :: own) ro) {z : Int} {i : Nat} {x : Lv} (hz : z = (i : Int)) (hi : L[i]? = some x) (h : wp EM (k (.agg x.cs)) S Q) : wp EM (.op (.saddr 4 v (I z)) fun p => .gop (B true) true (.load 4 true p) k) S Q := by
  subst hz
  refine wp_saddro H 0 rfl (lvs_get? hi) fun id off hp => ?_
  refine wp_gop_t ?_
  have := wp_loadFn (M := EM) (k := k) (S := S) (Q := Q) (j := 0) (n := 4) hp (by show 0 + 4 ≤ 4; omega) h
  exact this
theorem nanU_ok {S : AH} {a : Int} : wpC EM (.fn (.func 64) [] []) [U a] S fun r S' => r = B false ∧ Grows S S' := by
  refine wpC_fn (b := Try.a64) rfl rfl ?_
  unfold Try.a64
  refine wp_neq_f rfl ?_
  exact wp_ret ⟨rfl, rfl, Grows.refl _⟩
theorem compareU_ok {S : AH} {a b : Int} : wpC EM (.fn (.func 48) [] []) [U a, U b] S fun r S' => r = I (cmpI a b) ∧ Grows S S' := by
  refine wpC_fn (b := Try.a48) rfl rfl ?_
  have H : Cx S [] S [] [] := Cx.enter (by simp)
  unfold Try.a48 Try.a48x0
  unfold cmpI
  refine wp_callV H nanU_ok fun S1 H => ?_
  refine wp_callV H nanU_ok fun S2 H => ?_
  repeat (first|refine zA ?_|refine zB rfl ?_|refine zC ?_|refine zD ?_|refine zE rfl ?_|refine zF ?_|refine zG ?_|refine zH ?_|refine zI ?_|refine zJ ?_|refine zK ?_|refine zL rfl ?_|refine zN rfl ?_)
  refine wp_lss (fun h => ?_) (fun h => ?_)
  · rw [if_pos h]
    repeat (first|refine zA ?_|refine zB rfl ?_|refine zC ?_|refine zD ?_|refine zE rfl ?_|refine zF ?_|refine zG ?_|refine zH ?_|refine zI ?_|refine zJ ?_|refine zK ?_|refine zL rfl ?_|refine zN rfl ?_)
    exact wp_ret ⟨rfl, rfl, H.grows⟩
  rw [if_neg (by omega)]
  repeat (first|refine zA ?_|refine zB rfl ?_|refine zC ?_|refine zD ?_|refine zE rfl ?_|refine zF ?_|refine zG ?_|refine zH ?_|refine zI ?_|refine zJ ?_|refine zK ?_|refine zL rfl ?_|refine zN rfl ?_)
  refine wp_gtr (fun h2 => ?_) (fun h2 => ?_)
  · rw [if_pos h2]
    repeat (first|refine zA ?_|refine zB rfl ?_|refine zC ?_|refine zD ?_|refine zE rfl ?_|refine zF ?_|refine zG ?_|refine zH ?_|refine zI ?_|refine zJ ?_|refine zK ?_|refine zL rfl ?_|refine zN rfl ?_)
    exact wp_ret ⟨rfl, rfl, H.grows⟩
  · rw [if_neg (by omega)]
    repeat (first|refine zA ?_|refine zB rfl ?_|refine zC ?_|refine zD ?_|refine zE rfl ?_|refine zF ?_|refine zG ?_|refine zH ?_|refine zI ?_|refine zJ ?_|refine zK ?_|refine zL rfl ?_|refine zN rfl ?_)
    exact wp_ret ⟨rfl, rfl, H.grows⟩
def lvo (a b : Lv) : Int := orI [cmpI a.key b.key, cmpI a.job b.job]
theorem lvo_lt {a b : Lv} : lvo a b < 0 ↔ a.lt b := by
  unfold lvo orI orI orI cmpI Lv.lt
  repeat' split
  all_goals omega
theorem orderL_ok {S : AH} {a b : Lv} : wpC EM (.fn (.func 31) [] []) [.agg a.cs, .agg b.cs] S fun r S' => r = I (lvo a b) ∧ Grows S S' := by
  refine wpC_fn (b := Try.a31) rfl rfl ?_
  have H : Cx S [] S [] [] := Cx.enter (by simp)
  unfold Try.a31 Try.a31x1 Try.a31x0
  refine wp_box H rfl fun p S1 H => ?_
  refine wp_box H rfl fun q S2 H => ?_
  repeat (first|refine zA ?_|refine zB rfl ?_|refine zC ?_|refine zD ?_|refine zE rfl ?_|refine zF ?_|refine zG ?_|refine zH ?_|refine zI ?_|refine zJ ?_|refine zK ?_|refine zL rfl ?_|refine zN rfl ?_)
  refine wp_load1 (id := p) (j := 3) H (cs := a.cs) (by repeat (first | exact List.Mem.head _ | apply List.Mem.tail)) rfl ?_
  repeat (first|refine zA ?_|refine zB rfl ?_|refine zC ?_|refine zD ?_|refine zE rfl ?_|refine zF ?_|refine zG ?_|refine zH ?_|refine zI ?_|refine zJ ?_|refine zK ?_|refine zL rfl ?_|refine zN rfl ?_)
  refine wp_load1 (id := q) (j := 3) H (cs := b.cs) (by repeat (first | exact List.Mem.head _ | apply List.Mem.tail)) rfl ?_
  repeat (first|refine zA ?_|refine zB rfl ?_|refine zC ?_|refine zD ?_|refine zE rfl ?_|refine zF ?_|refine zG ?_|refine zH ?_|refine zI ?_|refine zJ ?_|refine zK ?_|refine zL rfl ?_|refine zN rfl ?_)
  refine wp_load1 (id := p) (j := 0) H (cs := a.cs) (by repeat (first | exact List.Mem.head _ | apply List.Mem.tail)) rfl ?_
  repeat (first|refine zA ?_|refine zB rfl ?_|refine zC ?_|refine zD ?_|refine zE rfl ?_|refine zF ?_|refine zG ?_|refine zH ?_|refine zI ?_|refine zJ ?_|refine zK ?_|refine zL rfl ?_|refine zN rfl ?_)
  refine wp_load1 (id := q) (j := 0) H (cs := b.cs) (by repeat (first | exact List.Mem.head _ | apply List.Mem.tail)) rfl ?_
  refine wp_callV H compareU_ok fun S3 H => ?_
  refine wp_chk1 (id := p) (off := 0) (j := 0) (cs := a.cs) H (by repeat (first | exact List.Mem.head _ | apply List.Mem.tail)) rfl beq_num ?_
  refine wp_chk1 (id := q) (off := 0) (j := 0) (cs := b.cs) H (by repeat (first | exact List.Mem.head _ | apply List.Mem.tail)) rfl beq_num ?_
  refine wp_callV H compare_ok fun S4 H => ?_
  refine wp_two H rfl rfl rfl rfl fun v S5 H => ?_
  refine wp_callV H (or_ok (l := [cmpI a.key b.key, cmpI a.job b.job]) (H.roSl (by repeat (first | exact List.Mem.head _ | apply List.Mem.tail))) (by simp)) fun S6 H => ?_
  exact wp_ret ⟨rfl, rfl, H.grows⟩
/-- two ranges that lie apart are exchanged -/
theorem swapRange_ok {P X M Y R : List Lv} {f : AV} (hn : X.length = Y.length) (hl : (P ++ (X ++ (M ++ (Y ++ R)))).length < 1000000) (H : Cx B0 W S (.sl v 4 (lvs (P ++ (X ++ (M ++ (Y ++ R))))) :: own) ro) :
    wpC EM (.fn (.func 93) [] []) [v, I (P.length : Int), I ((P.length + X.length + M.length : Nat) : Int), I (X.length : Int), f] S fun _ S' => Cx B0 W S' (.sl v 4 (lvs (P ++ (Y ++ (M ++ (X ++ R))))) :: own) ro := by
  refine wpC_fn (b := Try.a93) rfl rfl ?_
  unfold Try.a93 Try.a93x3 Try.a93x2 Try.a93x1 Try.a93x0
  refine wp_bind (wp_loop (wpL_inv (fun m vs S1 => ∃ (i : Nat), vs = [I (i : Int)] ∧ i ≤ X.length ∧ m = X.length - i ∧ Cx B0 W S1 (.sl v 4 (lvs (P ++ ((Y.take i ++ X.drop i) ++ (M ++ ((X.take i ++ Y.drop i) ++ R))))) :: own) ro) ?_ X.length ⟨0, rfl, by omega, by omega, by simpa using H⟩))
  clear H
  rintro m vs S1 ⟨i, rfl, hi, rfl, H⟩
  simp only [List.length_append] at hl
  refine wp_lss (fun hlt => ?_) (fun hge => ?_)
  · have hlt : i < X.length := by omega
    have hltY : i < Y.length := by omega
    have e1 : X.drop i = X[i] :: X.drop (i + 1) := List.drop_eq_getElem_cons hlt
    have e2 : Y.drop i = Y[i] :: Y.drop (i + 1) := List.drop_eq_getElem_cons hltY
    have t1 : X.take (i + 1) = X.take i ++ [X[i]] := List.take_succ_eq_append_getElem hlt
    have t2 : Y.take (i + 1) = Y.take i ++ [Y[i]] := List.take_succ_eq_append_getElem hltY
    have l1 : (X.take i).length = i := by rw [List.length_take]; omega
    have l2 : (Y.take i).length = i := by rw [List.length_take]; omega
    -- two ways to see the list: by its first place, by its second
    have shape : ∀ a b : Lv, P ++ ((Y.take i ++ a :: X.drop (i + 1)) ++ (M ++ ((X.take i ++ b :: Y.drop (i + 1)) ++ R))) = (P ++ Y.take i) ++ a :: (X.drop (i + 1) ++ (M ++ ((X.take i ++ b :: Y.drop (i + 1)) ++ R))) := by intro a b; simp
    have shape2 : ∀ a b : Lv, P ++ ((Y.take i ++ a :: X.drop (i + 1)) ++ (M ++ ((X.take i ++ b :: Y.drop (i + 1)) ++ R))) = (P ++ ((Y.take i ++ a :: X.drop (i + 1)) ++ (M ++ X.take i))) ++ b :: (Y.drop (i + 1) ++ R) := by intro a b; simp
    have n1 : (P ++ Y.take i).length = P.length + i := by rw [List.length_append, l2]
    have n2 : ∀ a : Lv, (P ++ ((Y.take i ++ a :: X.drop (i + 1)) ++ (M ++ X.take i))).length = P.length + X.length + M.length + i := by
      intro a; simp only [List.length_append, List.length_cons, List.length_drop, l1, l2]; omega
    rw [e1, e2] at H
    repeat (first|refine zA ?_|refine zB rfl ?_|refine zC ?_|refine zD ?_|refine zE rfl ?_|refine zF ?_|refine zG ?_|refine zH ?_|refine zI ?_|refine zJ ?_|refine zK ?_|refine zL rfl ?_|refine zN rfl ?_)
    refine wp_bind ?_
    refine wp_add64 (by omega) (by omega) ?_
    refine wp_add64 (by omega) (by omega) ?_
    refine wp_add64 (by omega) (by omega) ?_
    refine wp_ownLZ (i := P.length + X.length + M.length + i) (x := Y[i]) H (by omega) (by rw [shape2, ← n2 X[i]]; exact get_mid _ _ _) ?_
    refine wp_add64 (by omega) (by omega) ?_
    refine wp_ownLZ (i := P.length + i) (x := X[i]) H (by omega) (by rw [shape, ← n1]; exact get_mid _ _ _) ?_
    refine wp_ownSZ (i := P.length + i) (x := Y[i]) H (by omega) (by rw [shape]; simp only [List.length_append, List.length_cons, l2]; omega) fun S2 H => ?_
    have s1 : (P ++ ((Y.take i ++ X[i] :: X.drop (i + 1)) ++ (M ++ ((X.take i ++ Y[i] :: Y.drop (i + 1)) ++ R)))).set (P.length + i) Y[i] = P ++ ((Y.take i ++ Y[i] :: X.drop (i + 1)) ++ (M ++ ((X.take i ++ Y[i] :: Y.drop (i + 1)) ++ R))) := by
      rw [shape, ← n1, set_mid, ← shape]
    rw [s1] at H
    refine wp_ownSZ (i := P.length + X.length + M.length + i) (x := X[i]) H (by omega) (by rw [shape2, ← n2 Y[i]]; simp) fun S3 H => ?_
    have s2 : (P ++ ((Y.take i ++ Y[i] :: X.drop (i + 1)) ++ (M ++ ((X.take i ++ Y[i] :: Y.drop (i + 1)) ++ R)))).set (P.length + X.length + M.length + i) X[i] = P ++ ((Y.take i ++ Y[i] :: X.drop (i + 1)) ++ (M ++ ((X.take i ++ X[i] :: Y.drop (i + 1)) ++ R))) := by
      rw [shape2, ← n2 Y[i], set_mid, ← shape2]
    rw [s2] at H
    refine wp_ret ?_
    show wp EM _ _ _
    refine wp_add64 (by omega) (by omega) (wp_ret (.inl ⟨rfl, X.length - (i + 1), by omega, i + 1, rfl, by omega, rfl, ?_⟩))
    rw [t1, t2]
    simpa only [List.append_assoc, List.cons_append, List.nil_append] using H
  · have : i = X.length := by omega
    subst this
    repeat (first|refine zA ?_|refine zB rfl ?_|refine zC ?_|refine zD ?_|refine zE rfl ?_|refine zF ?_|refine zG ?_|refine zH ?_|refine zI ?_|refine zJ ?_|refine zK ?_|refine zL rfl ?_|refine zN rfl ?_)
    refine wp_ret (.inr ⟨by simp, ?_⟩)
    show wp EM _ _ _
    refine wp_ret ⟨rfl, ?_⟩
    rw [List.take_of_length_le (by omega), List.drop_of_length_le (Nat.le_refl _), List.take_length, List.drop_of_length_le (by omega)] at H
    simpa using H
/-- two neighbours are exchanged, by exchanges of ranges -/
theorem rotate_ok {P A C R : List Lv} {f : AV} (hA : A ≠ []) (hC : C ≠ []) (hl : (P ++ (A ++ (C ++ R))).length < 1000000) (H : Cx B0 W S (.sl v 4 (lvs (P ++ (A ++ (C ++ R)))) :: own) ro) :
    wpC EM (.fn (.func 76) [] []) [v, I (P.length : Int), I ((P.length + A.length : Nat) : Int), I ((P.length + A.length + C.length : Nat) : Int), f] S fun _ S' => Cx B0 W S' (.sl v 4 (lvs (P ++ (C ++ (A ++ R)))) :: own) ro := by
  refine wpC_fn (b := Try.a76) rfl rfl ?_
  unfold Try.a76 Try.a76x4 Try.a76x3 Try.a76x2 Try.a76x1 Try.a76x0
  have hA0 : 0 < A.length := List.length_pos_iff.2 hA
  have hC0 : 0 < C.length := List.length_pos_iff.2 hC
  simp only [List.length_append] at hl
  refine wp_sub64 (by omega) (by omega) ?_
  refine wp_sub64 (by omega) (by omega) ?_
  refine wp_bind (wp_loop (wpL_inv (fun m vs S1 => ∃ (P' A' C' R' : List Lv), vs = [I (C'.length : Int), I (A'.length : Int)] ∧ 0 < A'.length ∧ 0 < C'.length ∧ m = A'.length + C'.length ∧ P'.length + A'.length = P.length + A.length ∧ P'.length + A'.length + C'.length + R'.length = P.length + A.length + C.length + R.length ∧ P' ++ (C' ++ (A' ++ R')) = P ++ (C ++ (A ++ R)) ∧ Cx B0 W S1 (.sl v 4 (lvs (P' ++ (A' ++ (C' ++ R')))) :: own) ro) ?_ (A.length + C.length) ⟨P, A, C, R, ?_, hA0, hC0, rfl, rfl, rfl, rfl, H⟩))
  rotate_left
  · have q1 : ((P.length + A.length : Nat) : Int) - (P.length : Int) = (A.length : Int) := by omega
    have q2 : ((P.length + A.length + C.length : Nat) : Int) - ((P.length + A.length : Nat) : Int) = (C.length : Int) := by omega
    rw [q1, q2]
  clear H
  rintro m vs S1 ⟨P', A', C', R', rfl, ha, hc, rfl, hpa, hall, hgoal, H⟩
  refine wp_neq (fun hne => ?_) (fun he => ?_)
  · repeat (first|refine zA ?_|refine zB rfl ?_|refine zC ?_|refine zD ?_|refine zE rfl ?_|refine zF ?_|refine zG ?_|refine zH ?_|refine zI ?_|refine zJ ?_|refine zK ?_|refine zL rfl ?_|refine zN rfl ?_)
    refine wp_bind ?_
    refine wp_gtr (fun hgt => ?_) (fun hle => ?_)
    · -- the left one is the longer one
      have hlt : C'.length < A'.length := by omega
      refine wp_bind (wp_ite_t ?_)
      refine wp_sub64 (by omega) (by omega) ?_
      have hs : A' = A'.take C'.length ++ A'.drop C'.length := (List.take_append_drop _ _).symm
      have l1 : (A'.take C'.length).length = C'.length := by rw [List.length_take]; omega
      have l2 : (A'.drop C'.length).length = A'.length - C'.length := List.length_drop ..
      generalize A'.take C'.length = A1 at hs l1
      generalize A'.drop C'.length = A2 at hs l2
      subst hs
      simp only [List.length_append] at *
      have H2 : Cx B0 W S1 (.sl v 4 (lvs (P' ++ (A1 ++ (A2 ++ (C' ++ R'))))) :: own) ro := by simpa using H
      have e1 : ((P.length + A.length : Nat) : Int) - ((A1.length + A2.length : Nat) : Int) = (P'.length : Int) := by omega
      rw [e1]
      have e2 : (P.length + A.length : Nat) = P'.length + A1.length + A2.length := by omega
      have e3 : (C'.length : Int) = (A1.length : Int) := by omega
      rw [e2, e3]
      refine wp_call (wpC_mono (swapRange_ok (P := P') (X := A1) (M := A2) (Y := C') (R := R') (by omega) (by simp only [List.length_append]; omega) H2) fun r S2 H3 => ?_)
      refine wp_sub64 (by omega) (by omega) (wp_ret ?_)
      show wp EM _ _ _
      refine wp_ret ?_
      show wp EM _ _ _
      refine wp_ret (.inl ⟨rfl, A2.length + A1.length, by omega, P' ++ C', A2, A1, R', ?_, by omega, by omega, rfl, by simp only [List.length_append]; omega, by simp only [List.length_append]; omega, ?_, by have H4 : Cx B0 W S2 (.sl v 4 _ :: own) ro := H3; simpa using H4⟩)
      · have q : ((A1.length + A2.length : Nat) : Int) - (A1.length : Int) = (A2.length : Int) := by omega
        rw [q]; rfl
      · rw [← hgoal]; simp
    · -- the right one is
      have hlt : A'.length < C'.length := by omega
      refine wp_bind (wp_ite_f ?_)
      refine wp_sub64 (by omega) (by omega) ?_
      refine wp_add64 (by omega) (by omega) ?_
      refine wp_sub64 (by omega) (by omega) ?_
      have hs : C' = C'.take (C'.length - A'.length) ++ C'.drop (C'.length - A'.length) := (List.take_append_drop _ _).symm
      have l1 : (C'.take (C'.length - A'.length)).length = C'.length - A'.length := by rw [List.length_take]; omega
      have l2 : (C'.drop (C'.length - A'.length)).length = A'.length := by rw [List.length_drop]; omega
      generalize C'.take (C'.length - A'.length) = C1 at hs l1
      generalize C'.drop (C'.length - A'.length) = C2 at hs l2
      subst hs
      simp only [List.length_append] at *
      have H2 : Cx B0 W S1 (.sl v 4 (lvs (P' ++ (A' ++ (C1 ++ (C2 ++ R'))))) :: own) ro := by simpa using H
      have e1 : ((P.length + A.length : Nat) : Int) - (A'.length : Int) = (P'.length : Int) := by omega
      have e2 : ((P.length + A.length : Nat) : Int) + ((C1.length + C2.length : Nat) : Int) - (A'.length : Int) = ((P'.length + A'.length + C1.length : Nat) : Int) := by omega
      rw [e1, e2]
      refine wp_call (wpC_mono (swapRange_ok (P := P') (X := A') (M := C1) (Y := C2) (R := R') (by omega) (by simp only [List.length_append]; omega) H2) fun r S2 H3 => ?_)
      refine wp_sub64 (by omega) (by omega) (wp_ret ?_)
      show wp EM _ _ _
      refine wp_ret ?_
      show wp EM _ _ _
      refine wp_ret (.inl ⟨rfl, C2.length + C1.length, by omega, P', C2, C1, A' ++ R', ?_, by omega, by omega, rfl, by omega, by simp only [List.length_append]; omega, ?_, by have H4 : Cx B0 W S2 (.sl v 4 _ :: own) ro := H3; simpa using H4⟩)
      · have q : ((C1.length + C2.length : Nat) : Int) - (A'.length : Int) = (C1.length : Int) := by omega
        have q2 : (A'.length : Int) = (C2.length : Int) := by omega
        rw [q, q2]; rfl
      · rw [← hgoal]; simp
  · repeat (first|refine zA ?_|refine zB rfl ?_|refine zC ?_|refine zD ?_|refine zE rfl ?_|refine zF ?_|refine zG ?_|refine zH ?_|refine zI ?_|refine zJ ?_|refine zK ?_|refine zL rfl ?_|refine zN rfl ?_)
    refine wp_ret (.inr ⟨by simp, ?_⟩)
    show wp EM _ _ _
    have e0 : A'.length = C'.length := by omega
    refine wp_sub64 (by omega) (by omega) ?_
    have e1 : ((P.length + A.length : Nat) : Int) - (A'.length : Int) = (P'.length : Int) := by omega
    have e2 : (P.length + A.length : Nat) = P'.length + A'.length + ([] : List Lv).length := by simp; omega
    show wp EM (.call _ [v, I (((P.length + A.length : Nat) : Int) - (A'.length : Int)), I ((P.length + A.length : Nat) : Int), I (A'.length : Int), f] _) _ _
    rw [e1, e2]
    refine wp_call (wpC_mono (swapRange_ok (P := P') (X := A') (M := []) (Y := C') (R := R') e0 (by simp only [List.length_append, List.length_nil]; omega) (by simpa using H)) fun r S2 H3 => ?_)
    refine wp_ret ⟨rfl, ?_⟩
    rw [← hgoal]
    simpa using H3
end
end Go.Abs
namespace Go.Abs
open Go.Proofs
set_option maxRecDepth 100000
set_option linter.unusedVariables false
section
variable {B0 S : AH} {W : List Nat} {own : List Own} {ro : List Fct} {Q : Post} {k : AV → AC} {v : AV} {L : List Lv}
/-- the function by which is sorted -/
abbrev ordF : AV := .fn (.func 31) [] []
/-- one by one, each is laid among those ahead of it -/
theorem insertion_ok {P X R : List Lv} (hl : (P ++ (X ++ R)).length < 1000000) (H : Cx B0 W S (.sl v 4 (lvs (P ++ (X ++ R))) :: own) ro) :
    wpC EM (.fn (.func 62) [] []) [v, I (P.length : Int), I ((P.length + X.length : Nat) : Int), ordF] S fun _ S' => ∃ m, StS X m ∧ m.length = X.length ∧ Cx B0 W S' (.sl v 4 (lvs (P ++ (m ++ R))) :: own) ro := by
  refine wpC_fn (b := Try.a62) rfl rfl ?_
  unfold Try.a62 Try.a62x8 Try.a62x7 Try.a62x6 Try.a62x5 Try.a62x4 Try.a62x3 Try.a62x2 Try.a62x1 Try.a62x0
  simp only [List.length_append] at hl
  refine wp_add64 (by omega) (by omega) ?_
  refine wp_bind (wp_loop (wpL_inv (fun n vs S1 => ∃ (t : Nat) (u : AV) (m : List Lv), vs = [I ((P.length + t : Nat) : Int), u] ∧ 1 ≤ t ∧ t ≤ max 1 X.length ∧ n = max 1 X.length - t ∧ StS (X.take t) m ∧ m.length = min t X.length ∧ Cx B0 W S1 (.sl v 4 (lvs (P ++ (m ++ (X.drop t ++ R)))) :: own) ro) ?_ (max 1 X.length - 1) ⟨1, .no, X.take 1, ?_, by omega, by omega, rfl, ?_, by rw [List.length_take], ?_⟩))
  rotate_left
  · rfl
  · refine StS.self ?_
    cases X with
    | nil => simp
    | cons a r => simp
  · have : X.take 1 ++ (X.drop 1 ++ R) = X ++ R := by rw [← List.append_assoc, List.take_append_drop]
    rw [this]; exact H
  clear H
  rintro n vs S1 ⟨t, u, m, rfl, ht1, ht, rfl, hm, hml, H⟩
  refine wp_lss (fun hlt => ?_) (fun hge => ?_)
  · have hlt : t < X.length := by omega
    have hml : m.length = t := by omega
    have hdr : X.drop t = X[t] :: X.drop (t + 1) := List.drop_eq_getElem_cons hlt
    rw [hdr] at H
    repeat (first|refine zA ?_|refine zB rfl ?_|refine zC ?_|refine zD ?_|refine zE rfl ?_|refine zF ?_|refine zG ?_|refine zH ?_|refine zI ?_|refine zJ ?_|refine zK ?_|refine zL rfl ?_|refine zN rfl ?_)
    refine wp_bind ?_
    refine wp_bind (wp_loop (wpL_inv (fun n vs S1 => ∃ (a b : List Lv), vs = [I ((P.length + a.length : Nat) : Int)] ∧ n = a.length ∧ a ++ b = m ∧ (∀ y ∈ b, X[t].lt y) ∧ Cx B0 W S1 (.sl v 4 (lvs ((P ++ a) ++ X[t] :: (b ++ (X.drop (t + 1) ++ R)))) :: own) ro) ?_ t ⟨m, [], by rw [hml]; rfl, hml.symm, by simp, by simp, by simpa only [List.append_assoc, List.cons_append, List.nil_append] using H⟩))
    clear H
    rintro n vs S2 ⟨a, b, rfl, rfl, hab, hb, H⟩
    have hal : a.length + b.length = t := by rw [← hml, ← hab, List.length_append]
    have lenA : (P ++ a).length = P.length + a.length := List.length_append ..
    -- it stands where it is to be
    have fin : ∀ S2, Cx B0 W S2 (.sl v 4 (lvs ((P ++ a) ++ X[t] :: (b ++ (X.drop (t + 1) ++ R)))) :: own) ro → (∀ y ∈ a, ¬ X[t].lt y) → StS (X.take (t + 1)) (a ++ X[t] :: b) ∧ (a ++ X[t] :: b).length = min (t + 1) X.length ∧ Cx B0 W S2 (.sl v 4 (lvs (P ++ ((a ++ X[t] :: b) ++ (X.drop (t + 1) ++ R)))) :: own) ro := by
      intro S2 H ha
      refine ⟨?_, by simp only [List.length_append, List.length_cons]; omega, by simpa only [List.append_assoc, List.cons_append, List.nil_append] using H⟩
      rw [List.take_succ_eq_append_getElem hlt]
      exact StS.insert (by rw [hab]; exact hm) ha hb
    refine wp_gtr (fun hgt => ?_) (fun hle => ?_)
    · have ha0 : a ≠ [] := by intro h; rw [h] at hgt; simp at hgt
      obtain ⟨a', y, rfl⟩ : ∃ a' y, a = a' ++ [y] := ⟨a.dropLast, a.getLast ha0, (List.dropLast_concat_getLast ha0).symm⟩
      simp only [List.length_append, List.length_singleton] at hal lenA hgt ⊢
      have sh : ∀ p q : Lv, (P ++ (a' ++ [p])) ++ q :: (b ++ (X.drop (t + 1) ++ R)) = (P ++ a') ++ p :: q :: (b ++ (X.drop (t + 1) ++ R)) := by intro p q; simp only [List.append_assoc, List.cons_append, List.nil_append]
      have sh2 : ∀ p q : Lv, (P ++ a') ++ p :: q :: (b ++ (X.drop (t + 1) ++ R)) = ((P ++ a') ++ [p]) ++ q :: (b ++ (X.drop (t + 1) ++ R)) := by intro p q; simp only [List.append_assoc, List.cons_append, List.nil_append]
      have n1 : (P ++ a').length = P.length + a'.length := List.length_append ..
      have n2 : ∀ p : Lv, ((P ++ a') ++ [p]).length = P.length + a'.length + 1 := by intro p; rw [List.length_append, n1]; rfl
      rw [sh] at H
      have g1 : ∀ p q : Lv, ((P ++ a') ++ p :: q :: (b ++ (X.drop (t + 1) ++ R)))[P.length + a'.length]? = some p := by intro p q; rw [← n1]; exact get_mid _ _ _
      have g2 : ∀ p q : Lv, ((P ++ a') ++ p :: q :: (b ++ (X.drop (t + 1) ++ R)))[P.length + a'.length + 1]? = some q := by intro p q; rw [sh2, ← n2 p]; exact get_mid _ _ _
      repeat (first|refine zA ?_|refine zB rfl ?_|refine zC ?_|refine zD ?_|refine zE rfl ?_|refine zF ?_|refine zG ?_|refine zH ?_|refine zI ?_|refine zJ ?_|refine zK ?_|refine zL rfl ?_|refine zN rfl ?_)
      refine wp_ownG (i := P.length + a'.length + 1) (x := X[t]) H (by omega) (g2 _ _) ?_
      repeat (first|refine zA ?_|refine zB rfl ?_|refine zC ?_|refine zD ?_|refine zE rfl ?_|refine zF ?_|refine zG ?_|refine zH ?_|refine zI ?_|refine zJ ?_|refine zK ?_|refine zL rfl ?_|refine zN rfl ?_)
      refine wp_sub64 (by omega) (by omega) ?_
      repeat (first|refine zA ?_|refine zB rfl ?_|refine zC ?_|refine zD ?_|refine zE rfl ?_|refine zF ?_|refine zG ?_|refine zH ?_|refine zI ?_|refine zJ ?_|refine zK ?_|refine zL rfl ?_|refine zN rfl ?_)
      refine wp_ownG (i := P.length + a'.length) (x := y) H (by omega) (g1 _ _) ?_
      repeat (first|refine zA ?_|refine zB rfl ?_|refine zC ?_|refine zD ?_|refine zE rfl ?_|refine zF ?_|refine zG ?_|refine zH ?_|refine zI ?_|refine zJ ?_|refine zK ?_|refine zL rfl ?_|refine zN rfl ?_)
      refine wp_callV H (orderL_ok (a := X[t]) (b := y)) fun S3 H => ?_
      repeat (first|refine zA ?_|refine zB rfl ?_|refine zC ?_|refine zD ?_|refine zE rfl ?_|refine zF ?_|refine zG ?_|refine zH ?_|refine zI ?_|refine zJ ?_|refine zK ?_|refine zL rfl ?_|refine zN rfl ?_)
      refine wp_lss (fun hneg => ?_) (fun hpos => ?_)
      · have hly := lvo_lt.1 hneg
        repeat (first|refine zA ?_|refine zB rfl ?_|refine zC ?_|refine zD ?_|refine zE rfl ?_|refine zF ?_|refine zG ?_|refine zH ?_|refine zI ?_|refine zJ ?_|refine zK ?_|refine zL rfl ?_|refine zN rfl ?_)
        refine wp_bind ?_
        refine wp_sub64 (by omega) (by omega) ?_
        refine wp_sub64 (by omega) (by omega) ?_
        refine wp_ownLZ (i := P.length + a'.length) (x := y) H (by omega) (g1 _ _) ?_
        refine wp_ownLZ (i := P.length + a'.length + 1) (x := X[t]) H (by omega) (g2 _ _) ?_
        refine wp_ownSZ (i := P.length + a'.length + 1) (x := y) H (by omega) (by rw [sh2, ← n2 y]; simp) fun S4 H => ?_
        have s1 : ((P ++ a') ++ y :: X[t] :: (b ++ (X.drop (t + 1) ++ R))).set (P.length + a'.length + 1) y = (P ++ a') ++ y :: y :: (b ++ (X.drop (t + 1) ++ R)) := by rw [sh2, ← n2 y, set_mid, ← sh2]
        rw [s1] at H
        refine wp_ownSZ (i := P.length + a'.length) (x := X[t]) H (by omega) (by rw [← n1]; simp) fun S5 H => ?_
        have s2 : ((P ++ a') ++ y :: y :: (b ++ (X.drop (t + 1) ++ R))).set (P.length + a'.length) X[t] = (P ++ a') ++ X[t] :: y :: (b ++ (X.drop (t + 1) ++ R)) := by rw [← n1, set_mid]
        rw [s2] at H
        refine wp_ret ?_
        show wp EM _ _ _
        refine wp_sub64 (by omega) (by omega) (wp_ret (.inl ⟨rfl, a'.length, by omega, a', y :: b, ?_, rfl, by rw [← hab]; simp, ?_, by simpa only [List.append_assoc, List.cons_append, List.nil_append] using H⟩))
        · have q : ((P.length + (a'.length + 1) : Nat) : Int) - 1 = ((P.length + a'.length : Nat) : Int) := by omega
          show [I _] = [I _]
          rw [q]
        · intro z hz
          rcases List.mem_cons.1 hz with rfl | hz
          · exact hly
          · exact hb z hz
      · have hny : ¬ X[t].lt y := fun h => by have := lvo_lt.2 h; omega
        repeat (first|refine zA ?_|refine zB rfl ?_|refine zC ?_|refine zD ?_|refine zE rfl ?_|refine zF ?_|refine zG ?_|refine zH ?_|refine zI ?_|refine zJ ?_|refine zK ?_|refine zL rfl ?_|refine zN rfl ?_)
        rw [← sh] at H
        have hsrt : Srt (a' ++ [y]) := by
          have := hm.1
          rw [← hab] at this
          exact (List.pairwise_append.1 this).1
        obtain ⟨f1, f2, f3⟩ := fin S3 H fun z hz => by
          rcases List.mem_append.1 hz with hz | hz
          · exact fun h => (List.pairwise_append.1 hsrt).2.2 z hz y (by simp) |> fun hyz => hny (Lv.lt_le h hyz)
          · rw [List.mem_singleton.1 hz]; exact hny
        refine wp_ret (.inr ⟨by simp, ?_⟩)
        show wp EM _ _ _
        refine wp_ret ?_
        show wp EM _ _ _
        refine wp_add64 (by omega) (by omega) (wp_ret (.inl ⟨rfl, max 1 X.length - (t + 1), by omega, t + 1, _, _, rfl, by omega, by omega, rfl, f1, f2, f3⟩))
    · have ha0 : a = [] := by cases a with
        | nil => rfl
        | cons z r => simp at hle; omega
      subst ha0
      repeat (first|refine zA ?_|refine zB rfl ?_|refine zC ?_|refine zD ?_|refine zE rfl ?_|refine zF ?_|refine zG ?_|refine zH ?_|refine zI ?_|refine zJ ?_|refine zK ?_|refine zL rfl ?_|refine zN rfl ?_)
      obtain ⟨f1, f2, f3⟩ := fin S2 H (by simp)
      refine wp_ret (.inr ⟨by simp, ?_⟩)
      show wp EM _ _ _
      refine wp_ret ?_
      show wp EM _ _ _
      refine wp_add64 (by omega) (by omega) (wp_ret (.inl ⟨rfl, max 1 X.length - (t + 1), by omega, t + 1, _, _, rfl, by omega, by omega, rfl, f1, f2, f3⟩))
  · repeat (first|refine zA ?_|refine zB rfl ?_|refine zC ?_|refine zD ?_|refine zE rfl ?_|refine zF ?_|refine zG ?_|refine zH ?_|refine zI ?_|refine zJ ?_|refine zK ?_|refine zL rfl ?_|refine zN rfl ?_)
    refine wp_ret (.inr ⟨by simp, ?_⟩)
    show wp EM _ _ _
    have hX : X.length ≤ t := by omega
    rw [List.take_of_length_le hX] at hm
    rw [List.drop_of_length_le hX] at H
    exact wp_ret ⟨rfl, m, hm, by omega, by simpa using H⟩
end
end Go.Abs
namespace Go.Abs
open Go.Proofs
set_option maxRecDepth 100000
set_option linter.unusedVariables false
section
variable {B0 S : AH} {W : List Nat} {own : List Own} {ro : List Fct} {Q : Post} {k : AV → AC} {v : AV} {L : List Lv}
/-- the middle -/
theorem wp_half {m n : Nat} {x y : Int} (hx : x = (m : Int)) (hy : y = (n : Int)) (hb : m + n < 4000000) (h : wp EM (k (I (((m + n) / 2 : Nat) : Int))) S Q) :
    wp EM (.op (.bin .add (I x) (I y)) fun v5 => .op (.conv .u64 v5) fun v6 => .op (.bin .shr v6 (U 1)) fun v7 => .op (.conv .i64 v7) k) S Q := by
  subst hx; subst hy
  refine wp_add64 (by omega) (by omega) ?_
  refine wp_conv (c := ((m + n : Nat) : Int)) (by rw [wrapF_eq, IntKind.wrap_u64]; omega) ?_
  refine wp_shrU (s := 1) (by omega) (by omega) ?_
  refine wp_conv (c := (((m + n) / 2 : Nat) : Int)) (by rw [wrap64 (by omega) (by omega)]) ?_
  exact h
theorem len_3 (P X R : List Lv) : (P ++ (X ++ R)).length = P.length + X.length + R.length := by simp; omega
theorem get_at {P X R : List Lv} {i : Nat} (h : i < X.length) : (P ++ (X ++ R))[P.length + i]? = some X[i] := by
  rw [List.getElem?_append_right (by omega), Nat.add_sub_cancel_left, List.getElem?_append_left h, List.getElem?_eq_getElem h]
theorem get_at2 {P X Y R : List Lv} {i : Nat} (h : i < Y.length) : (P ++ (X ++ (Y ++ R)))[P.length + X.length + i]? = some Y[i] := by
  rw [List.getElem?_append_right (by omega), List.getElem?_append_right (by omega), show P.length + X.length + i - P.length - X.length = i by omega, List.getElem?_append_left h, List.getElem?_eq_getElem h]
theorem srt_le {l : List Lv} (h : Srt l) {i j : Nat} (hij : i ≤ j) (hj : j < l.length) : ¬ (l[j]).lt (l[i]'(by omega)) := by
  by_cases e : i = j
  · subst e; exact Lv.lt_irrefl _
  · exact (List.pairwise_iff_getElem.1 h) i j (by omega) hj (by omega)
/-- the first one is laid among the others -/
theorem symOneL_ok {P Y R : List Lv} {x : Lv} (hY : Srt Y) (hl : (P ++ (x :: (Y ++ R))).length < 1000000) (H : Cx B0 W S (.sl v 4 (lvs (P ++ (x :: (Y ++ R)))) :: own) ro) {w : AV} :
    wp EM (.bind (Try.a63x4 [v, I (P.length : Int), I ((P.length + 1 : Nat) : Int), I ((P.length + 1 + Y.length : Nat) : Int), ordF]) (some 0) (fun v3 => Try.a63x9 [v, I (P.length : Int), I ((P.length + 1 : Nat) : Int), I ((P.length + 1 + Y.length : Nat) : Int), ordF] v3) (fun v3 => [])) S
      fun t _ S' => t = .ret ∧ ∃ m, StS (x :: Y) m ∧ m.length = Y.length + 1 ∧ Cx B0 W S' (.sl v 4 (lvs (P ++ (m ++ R))) :: own) ro := by
  have hl' := hl
  simp only [List.length_append, List.length_cons] at hl
  have e0 : P ++ (x :: (Y ++ R)) = P ++ ([x] ++ (Y ++ R)) := rfl
  unfold Try.a63x4 Try.a63x3 Try.a63x2 Try.a63x1 Try.a63x0 Try.a63x9 Try.a63x8 Try.a63x7 Try.a63x6 Try.a63x5
  refine wp_bind (wp_loop (wpL_inv (fun n vs S1 => ∃ (i j : Nat), vs = [I ((P.length + 1 + j : Nat) : Int), I ((P.length + 1 + i : Nat) : Int)] ∧ i ≤ j ∧ j ≤ Y.length ∧ n = j - i ∧ (∀ q (hq : q < Y.length), q < i → (Y[q]).lt x) ∧ (∀ q (hq : q < Y.length), j ≤ q → ¬ (Y[q]).lt x) ∧ Cx B0 W S1 (.sl v 4 (lvs (P ++ ([x] ++ (Y ++ R)))) :: own) ro) ?_ Y.length ⟨0, Y.length, rfl, by omega, by omega, by omega, by intro q _ h; omega, by intro q _ h; omega, H⟩))
  clear H
  rintro n vs S1 ⟨i, j, rfl, hij, hj, rfl, h1, h2, H⟩
  refine wp_lss (fun hlt => ?_) (fun hge => ?_)
  · have hlt : i < j := by omega
    repeat (first|refine zA ?_|refine zB rfl ?_|refine zC ?_|refine zD ?_|refine zE rfl ?_|refine zF ?_|refine zG ?_|refine zH ?_|refine zI ?_|refine zJ ?_|refine zK ?_|refine zL rfl ?_|refine zN rfl ?_)
    refine wp_bind ?_
    refine wp_half rfl rfl (by omega) ?_
    have eh : (P.length + 1 + i + (P.length + 1 + j)) / 2 = P.length + 1 + (i + j) / 2 := by omega
    rw [eh]
    have hh : (i + j) / 2 < Y.length := by omega
    refine wp_ownLZ (i := P.length + [x].length + (i + j) / 2) (x := Y[(i + j) / 2]) H (by simp) (get_at2 hh) ?_
    refine wp_ownLZ (i := P.length + 0) (x := x) H (by simp) (get_at (X := [x]) (by simp)) ?_
    refine wp_callV H (orderL_ok (a := Y[(i + j) / 2]) (b := x)) fun S2 H => ?_
    refine wp_lss (fun hneg => ?_) (fun hpos => ?_)
    · refine wp_bind (wp_ite_t ?_)
      refine wp_add64 (by omega) (by omega) (wp_ret ?_)
      show wp EM _ _ _
      refine wp_ret ?_
      show wp EM _ _ _
      refine wp_ret (.inl ⟨rfl, j - ((i + j) / 2 + 1), by omega, (i + j) / 2 + 1, j, ?_, by omega, by omega, rfl, ?_, h2, H⟩)
      · have q : ((P.length + 1 + (i + j) / 2 : Nat) : Int) + 1 = ((P.length + 1 + ((i + j) / 2 + 1) : Nat) : Int) := by omega
        show [I _, I _] = [I _, I _]
        rw [q]
      · intro q hq hqi
        have := srt_le hY (i := q) (j := (i + j) / 2) (by omega) hh
        exact Lv.le_lt this (lvo_lt.1 hneg)
    · refine wp_bind (wp_ite_f (wp_ret ?_))
      show wp EM _ _ _
      refine wp_ret ?_
      show wp EM _ _ _
      refine wp_ret (.inl ⟨rfl, (i + j) / 2 - i, by omega, i, (i + j) / 2, rfl, by omega, by omega, rfl, h1, ?_, H⟩)
      intro q hq hqi hlt2
      have := srt_le hY (i := (i + j) / 2) (j := q) hqi hq
      have hn : ¬ (Y[(i + j) / 2]).lt x := fun h => by have := lvo_lt.2 h; omega
      exact hn (Lv.le_lt this hlt2)
  · have : j = i := by omega
    subst this
    repeat (first|refine zA ?_|refine zB rfl ?_|refine zC ?_|refine zD ?_|refine zE rfl ?_|refine zF ?_|refine zG ?_|refine zH ?_|refine zI ?_|refine zJ ?_|refine zK ?_|refine zL rfl ?_|refine zN rfl ?_)
    refine wp_ret (.inr ⟨by simp, ?_⟩)
    show wp EM _ _ _
    have hY1 : (Y.take j).length = j := by rw [List.length_take]; omega
    have hst : StS (x :: Y) (Y.take j ++ x :: Y.drop j) := by
      have ha : ∀ y ∈ Y.take j, y.lt x := by
        intro y hy
        obtain ⟨q, hq, rfl⟩ := List.mem_iff_getElem.1 hy
        rw [hY1] at hq
        rw [List.getElem_take]
        exact h1 q (by omega) hq
      have hb : ∀ y ∈ Y.drop j, ¬ y.lt x := by
        intro y hy
        obtain ⟨q, hq, rfl⟩ := List.mem_iff_getElem.1 hy
        rw [List.length_drop] at hq
        rw [List.getElem_drop]
        exact h2 _ (by omega) (by omega)
      refine ⟨List.pairwise_append.2 ⟨hY.take j, List.pairwise_cons.2 ⟨hb, hY.drop j⟩, fun y hy z hz => ?_⟩, fun k' j' => ?_⟩
      · rcases List.mem_cons.1 hz with rfl | hz
        · exact Lv.lt_asymm (ha y hy)
        · exact fun h => hb z hz (Lv.lt_trans h (ha y hy))
      · have e := cls_swap (a := [x]) (b := Y.take j) (fun y hy z hz => by rw [List.mem_singleton.1 hy]; exact ha z hz) k' j'
        have e1 : Y.take j ++ x :: Y.drop j = (Y.take j ++ [x]) ++ Y.drop j := by simp
        have e2 : x :: Y = ([x] ++ Y.take j) ++ Y.drop j := by simp
        rw [e1, e2, cls_app, e, ← cls_app]
    -- it is carried there
    refine wp_bind (wp_loop (wpL_inv (fun n vs S1 => ∃ (t : Nat), vs = [I ((P.length + t : Nat) : Int)] ∧ t ≤ j ∧ n = j - t ∧ Cx B0 W S1 (.sl v 4 (lvs ((P ++ Y.take t) ++ x :: (Y.drop t ++ R))) :: own) ro) ?_ j ⟨0, rfl, by omega, by omega, by simpa using H⟩))
    clear H
    rintro n vs S3 ⟨t, rfl, ht, rfl, H⟩
    refine wp_sub64 (by omega) (by omega) ?_
    refine wp_lss (fun hlt2 => ?_) (fun hge2 => ?_)
    · have htY : t < Y.length := by omega
      have hdr : Y.drop t = Y[t] :: Y.drop (t + 1) := List.drop_eq_getElem_cons htY
      rw [hdr] at H
      have n1 : (P ++ Y.take t).length = P.length + t := by rw [List.length_append, List.length_take]; omega
      have n2 : ∀ p : Lv, ((P ++ Y.take t) ++ [p]).length = P.length + t + 1 := by intro p; rw [List.length_append, n1]; rfl
      have sh2 : ∀ p q : Lv, (P ++ Y.take t) ++ p :: q :: (Y.drop (t + 1) ++ R) = ((P ++ Y.take t) ++ [p]) ++ q :: (Y.drop (t + 1) ++ R) := by intro p q; simp
      have H : Cx B0 W S3 (.sl v 4 (lvs ((P ++ Y.take t) ++ x :: Y[t] :: (Y.drop (t + 1) ++ R))) :: own) ro := H
      repeat (first|refine zA ?_|refine zB rfl ?_|refine zC ?_|refine zD ?_|refine zE rfl ?_|refine zF ?_|refine zG ?_|refine zH ?_|refine zI ?_|refine zJ ?_|refine zK ?_|refine zL rfl ?_|refine zN rfl ?_)
      refine wp_bind ?_
      refine wp_add64 (by omega) (by omega) ?_
      refine wp_add64 (by omega) (by omega) ?_
      refine wp_ownLZ (i := P.length + t + 1) (x := Y[t]) H (by omega) (by rw [sh2, ← n2 x]; exact get_mid _ _ _) ?_
      refine wp_ownLZ (i := P.length + t) (x := x) H (by omega) (by rw [← n1]; exact get_mid _ _ _) ?_
      refine wp_ownSZ (i := P.length + t) (x := Y[t]) H (by omega) (by rw [← n1]; simp) fun S4 H => ?_
      have s1 : ((P ++ Y.take t) ++ x :: Y[t] :: (Y.drop (t + 1) ++ R)).set (P.length + t) Y[t] = (P ++ Y.take t) ++ Y[t] :: Y[t] :: (Y.drop (t + 1) ++ R) := by rw [← n1, set_mid]
      rw [s1] at H
      refine wp_ownSZ (i := P.length + t + 1) (x := x) H (by omega) (by rw [sh2, ← n2 Y[t]]; simp) fun S5 H => ?_
      have s2 : ((P ++ Y.take t) ++ Y[t] :: Y[t] :: (Y.drop (t + 1) ++ R)).set (P.length + t + 1) x = (P ++ Y.take t) ++ Y[t] :: x :: (Y.drop (t + 1) ++ R) := by rw [sh2, ← n2 Y[t], set_mid, ← sh2]
      rw [s2] at H
      refine wp_ret ?_
      show wp EM _ _ _
      refine wp_add64 (by omega) (by omega) (wp_ret (.inl ⟨rfl, j - (t + 1), by omega, t + 1, rfl, by omega, rfl, ?_⟩))
      rw [List.take_succ_eq_append_getElem htY]
      simpa only [List.append_assoc, List.cons_append, List.nil_append] using H
    · have : t = j := by omega
      subst this
      repeat (first|refine zA ?_|refine zB rfl ?_|refine zC ?_|refine zD ?_|refine zE rfl ?_|refine zF ?_|refine zG ?_|refine zH ?_|refine zI ?_|refine zJ ?_|refine zK ?_|refine zL rfl ?_|refine zN rfl ?_)
      refine wp_ret (.inr ⟨by simp, ?_⟩)
      show wp EM _ _ _
      exact wp_ret ⟨rfl, _, hst, by simp only [List.length_append, List.length_cons, hY1, List.length_drop]; omega, by simpa using H⟩
/-- the last one is laid among the others -/
theorem symOneR_ok {P Y R : List Lv} {x : Lv} (hY : Srt Y) (hl : (P ++ (Y ++ (x :: R))).length < 1000000) (H : Cx B0 W S (.sl v 4 (lvs (P ++ (Y ++ (x :: R)))) :: own) ro) {e : AV} :
    wp EM (Try.a63x31 [v, I (P.length : Int), I ((P.length + Y.length : Nat) : Int), e, ordF] (B true)) S
      fun t _ S' => t = .ret ∧ ∃ m, StS (Y ++ [x]) m ∧ m.length = Y.length + 1 ∧ Cx B0 W S' (.sl v 4 (lvs (P ++ (m ++ R))) :: own) ro := by
  have hl' := hl
  simp only [List.length_append, List.length_cons] at hl
  unfold Try.a63x31 Try.a63x13 Try.a63x12 Try.a63x11 Try.a63x10 Try.a63x17 Try.a63x16 Try.a63x15 Try.a63x14
  refine wp_ite_t ?_
  refine wp_bind (wp_loop (wpL_inv (fun n vs S1 => ∃ (i j : Nat), vs = [I ((P.length + j : Nat) : Int), I ((P.length + i : Nat) : Int)] ∧ i ≤ j ∧ j ≤ Y.length ∧ n = j - i ∧ (∀ q (hq : q < Y.length), q < i → ¬ x.lt Y[q]) ∧ (∀ q (hq : q < Y.length), j ≤ q → x.lt Y[q]) ∧ Cx B0 W S1 (.sl v 4 (lvs (P ++ (Y ++ ([x] ++ R)))) :: own) ro) ?_ Y.length ⟨0, Y.length, rfl, by omega, by omega, by omega, by intro q _ h; omega, by intro q _ h; omega, H⟩))
  clear H
  rintro n vs S1 ⟨i, j, rfl, hij, hj, rfl, h1, h2, H⟩
  refine wp_lss (fun hlt => ?_) (fun hge => ?_)
  · have hlt : i < j := by omega
    repeat (first|refine zA ?_|refine zB rfl ?_|refine zC ?_|refine zD ?_|refine zE rfl ?_|refine zF ?_|refine zG ?_|refine zH ?_|refine zI ?_|refine zJ ?_|refine zK ?_|refine zL rfl ?_|refine zN rfl ?_)
    refine wp_bind ?_
    refine wp_half rfl rfl (by omega) ?_
    have eh : (P.length + i + (P.length + j)) / 2 = P.length + (i + j) / 2 := by omega
    rw [eh]
    have hh : (i + j) / 2 < Y.length := by omega
    refine wp_ownLZ (i := P.length + Y.length + 0) (x := x) H (by simp) (get_at2 (Y := [x]) (by simp)) ?_
    refine wp_ownLZ (i := P.length + (i + j) / 2) (x := Y[(i + j) / 2]) H rfl (get_at hh) ?_
    refine wp_callV H (orderL_ok (a := x) (b := Y[(i + j) / 2])) fun S2 H => ?_
    refine wp_lss (fun hneg => ?_) (fun hpos => ?_)
    · refine wp_op (v := B false) rfl ?_
      refine wp_bind (wp_ite_f (wp_ret ?_))
      show wp EM _ _ _
      refine wp_ret ?_
      show wp EM _ _ _
      refine wp_ret (.inl ⟨rfl, (i + j) / 2 - i, by omega, i, (i + j) / 2, rfl, by omega, by omega, rfl, h1, ?_, H⟩)
      intro q hq hqi
      have := srt_le hY (i := (i + j) / 2) (j := q) hqi hq
      exact Lv.lt_le (lvo_lt.1 hneg) this
    · refine wp_op (v := B true) rfl ?_
      refine wp_bind (wp_ite_t ?_)
      refine wp_add64 (by omega) (by omega) (wp_ret ?_)
      show wp EM _ _ _
      refine wp_ret ?_
      show wp EM _ _ _
      refine wp_ret (.inl ⟨rfl, j - ((i + j) / 2 + 1), by omega, (i + j) / 2 + 1, j, ?_, by omega, by omega, rfl, ?_, h2, H⟩)
      · have q : ((P.length + (i + j) / 2 : Nat) : Int) + 1 = ((P.length + ((i + j) / 2 + 1) : Nat) : Int) := by omega
        show [I _, I _] = [I _, I _]
        rw [q]
      · intro q hq hqi hlt2
        have := srt_le hY (i := q) (j := (i + j) / 2) (by omega) hh
        have hn : ¬ x.lt (Y[(i + j) / 2]) := fun h => by have := lvo_lt.2 h; omega
        exact hn (Lv.lt_le hlt2 this)
  · have : j = i := by omega
    subst this
    repeat (first|refine zA ?_|refine zB rfl ?_|refine zC ?_|refine zD ?_|refine zE rfl ?_|refine zF ?_|refine zG ?_|refine zH ?_|refine zI ?_|refine zJ ?_|refine zK ?_|refine zL rfl ?_|refine zN rfl ?_)
    refine wp_ret (.inr ⟨by simp, ?_⟩)
    show wp EM _ _ _
    have hY1 : (Y.take j).length = j := by rw [List.length_take]; omega
    have hst : StS (Y ++ [x]) (Y.take j ++ x :: Y.drop j) := by
      refine StS.insert (by rw [List.take_append_drop]; exact StS.self hY) ?_ ?_
      · intro y hy
        obtain ⟨q, hq, rfl⟩ := List.mem_iff_getElem.1 hy
        rw [hY1] at hq
        rw [List.getElem_take]
        exact h1 q (by omega) hq
      · intro y hy
        obtain ⟨q, hq, rfl⟩ := List.mem_iff_getElem.1 hy
        rw [List.length_drop] at hq
        rw [List.getElem_drop]
        exact h2 _ (by omega) (by omega)
    refine wp_bind (wp_loop (wpL_inv (fun n vs S1 => ∃ (t : Nat), vs = [I ((P.length + t : Nat) : Int)] ∧ j ≤ t ∧ t ≤ Y.length ∧ n = t - j ∧ Cx B0 W S1 (.sl v 4 (lvs ((P ++ Y.take t) ++ x :: (Y.drop t ++ R))) :: own) ro) ?_ (Y.length - j) ⟨Y.length, rfl, by omega, by omega, by omega, by simpa using H⟩))
    clear H
    rintro n vs S3 ⟨t, rfl, ht1, ht, rfl, H⟩
    refine wp_gtr (fun hgt2 => ?_) (fun hle2 => ?_)
    · obtain ⟨u, rfl⟩ : ∃ u, t = u + 1 := ⟨t - 1, by omega⟩
      have huY : u < Y.length := by omega
      rw [List.take_succ_eq_append_getElem huY] at H
      have n1 : (P ++ Y.take u).length = P.length + u := by rw [List.length_append, List.length_take]; omega
      have n2 : ∀ p : Lv, ((P ++ Y.take u) ++ [p]).length = P.length + u + 1 := by intro p; rw [List.length_append, n1]; rfl
      have sh2 : ∀ p q : Lv, (P ++ Y.take u) ++ p :: q :: (Y.drop (u + 1) ++ R) = ((P ++ Y.take u) ++ [p]) ++ q :: (Y.drop (u + 1) ++ R) := by intro p q; simp
      have H : Cx B0 W S3 (.sl v 4 (lvs ((P ++ Y.take u) ++ Y[u] :: x :: (Y.drop (u + 1) ++ R))) :: own) ro := by simpa only [List.append_assoc, List.cons_append, List.nil_append] using H
      repeat (first|refine zA ?_|refine zB rfl ?_|refine zC ?_|refine zD ?_|refine zE rfl ?_|refine zF ?_|refine zG ?_|refine zH ?_|refine zI ?_|refine zJ ?_|refine zK ?_|refine zL rfl ?_|refine zN rfl ?_)
      refine wp_bind ?_
      refine wp_sub64 (by omega) (by omega) ?_
      refine wp_sub64 (by omega) (by omega) ?_
      refine wp_ownLZ (i := P.length + u) (x := Y[u]) H (by omega) (by rw [← n1]; exact get_mid _ _ _) ?_
      refine wp_ownLZ (i := P.length + u + 1) (x := x) H (by omega) (by rw [sh2, ← n2 Y[u]]; exact get_mid _ _ _) ?_
      refine wp_ownSZ (i := P.length + u + 1) (x := Y[u]) H (by omega) (by rw [sh2, ← n2 Y[u]]; simp) fun S4 H => ?_
      have s1 : ((P ++ Y.take u) ++ Y[u] :: x :: (Y.drop (u + 1) ++ R)).set (P.length + u + 1) Y[u] = (P ++ Y.take u) ++ Y[u] :: Y[u] :: (Y.drop (u + 1) ++ R) := by rw [sh2, ← n2 Y[u], set_mid, ← sh2]
      rw [s1] at H
      refine wp_ownSZ (i := P.length + u) (x := x) H (by omega) (by rw [← n1]; simp) fun S5 H => ?_
      have s2 : ((P ++ Y.take u) ++ Y[u] :: Y[u] :: (Y.drop (u + 1) ++ R)).set (P.length + u) x = (P ++ Y.take u) ++ x :: Y[u] :: (Y.drop (u + 1) ++ R) := by rw [← n1, set_mid]
      rw [s2] at H
      refine wp_ret ?_
      show wp EM _ _ _
      refine wp_sub64 (by omega) (by omega) (wp_ret (.inl ⟨rfl, u - j, by omega, u, ?_, by omega, by omega, rfl, ?_⟩))
      · have q : ((P.length + (u + 1) : Nat) : Int) - 1 = ((P.length + u : Nat) : Int) := by omega
        show [I _] = [I _]
        rw [q]
      · have hdr : Y.drop u = Y[u] :: Y.drop (u + 1) := List.drop_eq_getElem_cons huY
        rw [hdr]; exact H
    · have : t = j := by omega
      subst this
      repeat (first|refine zA ?_|refine zB rfl ?_|refine zC ?_|refine zD ?_|refine zE rfl ?_|refine zF ?_|refine zG ?_|refine zH ?_|refine zI ?_|refine zJ ?_|refine zK ?_|refine zL rfl ?_|refine zN rfl ?_)
      refine wp_ret (.inr ⟨by simp, ?_⟩)
      show wp EM _ _ _
      exact wp_ret ⟨rfl, _, hst, by simp only [List.length_append, List.length_cons, hY1, List.length_drop]; omega, by simpa using H⟩
end
end Go.Abs
namespace Go.Abs
open Go.Proofs
set_option maxRecDepth 100000
set_option linter.unusedVariables false
section
variable {B0 S : AH} {W : List Nat} {own : List Own} {ro : List Fct} {Q : Post} {k : AV → AC} {v : AV} {L : List Lv}
theorem cond1 {K : AV → AC} {S2 : AH} {Q' : Post} (a b c d : Int) (hK : ∀ z : Bool, (z = true ↔ a < b ∧ c < d) → wp EM (K (B z)) S2 Q') : wp EM (.gop (B (decide (a < b))) true (.mv (I c)) fun v16 => .gop (B (decide (a < b))) true (.mv (I d)) fun v17 => .gop (B (decide (a < b))) true (.bin .lss v16 v17) fun v18 => .op (.pick (B (decide (a < b))) v18 (B false)) K) S2 Q' := by
  by_cases q : a < b
  · rw [decide_eq_true q]
    refine wp_gop_t (wp_op rfl (wp_gop_t (wp_op rfl (wp_gop_t (wp_lss (fun q2 => ?_) (fun q2 => ?_))))))
    · exact wp_op (v := B true) rfl (hK true ⟨fun _ => ⟨q, q2⟩, fun _ => rfl⟩)
    · exact wp_op (v := B false) rfl (hK false ⟨fun h => (by cases h), fun h => absurd h.2 (by omega)⟩)
  · rw [decide_eq_false q]
    refine wp_gop_f rfl (wp_gop_f rfl (wp_gop_f rfl ?_))
    exact wp_op (v := B false) rfl (hK false ⟨fun h => (by cases h), fun h => absurd h.1 q⟩)
/-- two neighbours that are in order are merged -/
theorem symMerge_ok : ∀ (n : Nat) {B0 S : AH} {W : List Nat} {own : List Own} {ro : List Fct} {v : AV} {P X Y R : List Lv}, X.length + Y.length = n → X ≠ [] → Y ≠ [] → Srt X → Srt Y → (P ++ (X ++ (Y ++ R))).length < 1000000 → Cx B0 W S (.sl v 4 (lvs (P ++ (X ++ (Y ++ R)))) :: own) ro →
    wpC EM (.fn (.func 63) [] []) [v, I (P.length : Int), I ((P.length + X.length : Nat) : Int), I ((P.length + X.length + Y.length : Nat) : Int), ordF] S fun _ S' => ∃ m, StS (X ++ Y) m ∧ m.length = X.length + Y.length ∧ Cx B0 W S' (.sl v 4 (lvs (P ++ (m ++ R))) :: own) ro := by
  intro n
  induction n using Nat.strongRecOn with
  | _ n ih =>
  intro B0 S W own ro v P X Y R hn hX hY sX sY hl H
  have hX0 : 0 < X.length := List.length_pos_iff.2 hX
  have hY0 : 0 < Y.length := List.length_pos_iff.2 hY
  have hl' := hl
  simp only [List.length_append] at hl
  refine wpC_fn (b := Try.a63) rfl rfl ?_
  unfold Try.a63
  refine wp_sub64 (by omega) (by omega) ?_
  refine wp_eql (fun h1 => ?_) (fun h1 => ?_)
  · -- one on the left
    obtain ⟨x, rfl⟩ : ∃ x, X = [x] := List.length_eq_one_iff.1 (by omega)
    refine wp_ite_t ?_
    refine wp_mono (symOneL_ok (P := P) (Y := Y) (R := R) (x := x) (w := .no) sY (by simpa using hl') H) fun t vs S' q => ?_
    obtain ⟨rfl, m, q1, q2, q3⟩ := q
    exact ⟨rfl, m, q1, by simpa [Nat.add_comm] using q2, q3⟩
  refine wp_ite_f ?_
  refine wp_sub64 (by omega) (by omega) ?_
  refine wp_eql (fun h2 => ?_) (fun h2 => ?_)
  · -- one on the right
    obtain ⟨y, rfl⟩ : ∃ y, Y = [y] := List.length_eq_one_iff.1 (by omega)
    refine wp_mono (symOneR_ok (P := P) (Y := X) (R := R) (x := y) sX hl' H) fun t vs S' q => ?_
    obtain ⟨rfl, m, q1, q2, q3⟩ := q
    exact ⟨rfl, m, q1, by simpa using q2, q3⟩
  have hX2 : 2 ≤ X.length := by omega
  have hY2 : 2 ≤ Y.length := by omega
  unfold Try.a63x31
  refine wp_ite_f ?_
  refine wp_half rfl rfl (by omega) ?_
  obtain ⟨h, hh⟩ : ∃ h, h = (X.length + Y.length) / 2 := ⟨_, rfl⟩
  have eh : (P.length + (P.length + X.length + Y.length)) / 2 = P.length + h := by omega
  rw [eh]
  unfold Try.a63x30
  refine wp_add64 (by omega) (by omega) ?_
  -- from where to where is searched
  suffices part : ∀ lo hi : Nat, lo ≤ hi → hi ≤ h → hi ≤ X.length → h ≤ lo + Y.length → (lo = 0 ∨ lo + Y.length = h) → (hi = h ∨ hi = X.length) → wp EM (.op (.bin .sub (I (((P.length + h : Nat) : Int) + ((P.length + X.length : Nat) : Int))) (I 1)) fun v12 => Try.a63x29 [v, I (P.length : Int), I ((P.length + X.length : Nat) : Int), I ((P.length + X.length + Y.length : Nat) : Int), ordF] (I ((P.length + h : Nat) : Int)) (I (((P.length + h : Nat) : Int) + ((P.length + X.length : Nat) : Int))) [I ((P.length + hi : Nat) : Int), I ((P.length + lo : Nat) : Int)] v12) S (fun t _ S' => t = .ret ∧ ∃ m, StS (X ++ Y) m ∧ m.length = X.length + Y.length ∧ Cx B0 W S' (.sl v 4 (lvs (P ++ (m ++ R))) :: own) ro) by
    refine wp_gtr (fun hg => ?_) (fun hg => ?_)
    · refine wp_bind (wp_ite_t ?_)
      unfold Try.a63x18
      refine wp_sub64 (by omega) (by omega) (wp_ret ?_)
      have q : ((P.length + h : Nat) : Int) + ((P.length + X.length : Nat) : Int) - ((P.length + X.length + Y.length : Nat) : Int) = ((P.length + (h - Y.length) : Nat) : Int) := by omega
      have K := part (h - Y.length) h (by omega) (by omega) (by omega) (by omega) (by omega) (by omega)
      rw [← q] at K
      exact K
    · refine wp_bind (wp_ite_f (wp_ret ?_))
      exact part 0 X.length (by omega) (by omega) (by omega) (by omega) (by omega) (by omega)
  intro lo hi hlh hih hiX hlY hlo hhi
  refine wp_sub64 (by omega) (by omega) ?_
  unfold Try.a63x29
  refine wp_bind (wp_loop (wpL_inv (fun n vs S1 => ∃ (s r : Nat), vs = [I ((P.length + r : Nat) : Int), I ((P.length + s : Nat) : Int)] ∧ lo ≤ s ∧ s ≤ r ∧ r ≤ hi ∧ n = r - s ∧ (∀ (q1 : s - 1 < X.length) (q2 : h - s < Y.length), lo < s → ¬ (Y[h - s]).lt X[s - 1]) ∧ (∀ (q1 : r < X.length) (q2 : h - 1 - r < Y.length), r < hi → (Y[h - 1 - r]).lt X[r]) ∧ Cx B0 W S1 (.sl v 4 (lvs (P ++ (X ++ (Y ++ R)))) :: own) ro) ?_ (hi - lo) ⟨lo, hi, rfl, by omega, by omega, by omega, rfl, by intro _ _ h; omega, by intro _ _ h; omega, H⟩))
  clear H
  rintro n' vs S2 ⟨s, r, rfl, hls, hsr, hrh, rfl, hs1, hr1, H⟩
  unfold Try.a63x22
  refine wp_lss (fun hlt => ?_) (fun hge => ?_)
  · have hlt : s < r := by omega
    repeat (first|refine zA ?_|refine zB rfl ?_|refine zC ?_|refine zD ?_|refine zE rfl ?_|refine zF ?_|refine zG ?_|refine zH ?_|refine zI ?_|refine zJ ?_|refine zK ?_|refine zL rfl ?_|refine zN rfl ?_)
    unfold Try.a63x21
    refine wp_bind ?_
    refine wp_half rfl rfl (by omega) ?_
    obtain ⟨c, hc⟩ : ∃ c, c = (s + r) / 2 := ⟨_, rfl⟩
    have ec : (P.length + s + (P.length + r)) / 2 = P.length + c := by omega
    rw [ec]
    refine wp_sub64 (by omega) (by omega) ?_
    unfold Try.a63x20
    have cX : c < X.length := by omega
    have cY : h - 1 - c < Y.length := by omega
    refine wp_ownLZ (i := P.length + X.length + (h - 1 - c)) (x := Y[h - 1 - c]) H (by omega) (get_at2 cY) ?_
    refine wp_ownLZ (i := P.length + c) (x := X[c]) H rfl (get_at cX) ?_
    refine wp_callV H (orderL_ok (a := Y[h - 1 - c]) (b := X[c])) fun S3 H => ?_
    unfold Try.a63x19
    refine wp_lss (fun hneg => ?_) (fun hpos => ?_)
    · refine wp_op (v := B false) rfl ?_
      refine wp_bind (wp_ite_f (wp_ret ?_))
      show wp EM _ _ _
      refine wp_ret ?_
      show wp EM _ _ _
      exact wp_ret (.inl ⟨rfl, c - s, by omega, s, c, rfl, by omega, by omega, by omega, rfl, hs1, fun _ _ _ => lvo_lt.1 hneg, H⟩)
    · refine wp_op (v := B true) rfl ?_
      refine wp_bind (wp_ite_t ?_)
      refine wp_add64 (by omega) (by omega) (wp_ret ?_)
      show wp EM _ _ _
      refine wp_ret ?_
      show wp EM _ _ _
      refine wp_ret (.inl ⟨rfl, r - (c + 1), by omega, c + 1, r, ?_, by omega, by omega, by omega, rfl, fun q1 q2 _ => ?_, hr1, H⟩)
      · have q : ((P.length + c : Nat) : Int) + 1 = ((P.length + (c + 1) : Nat) : Int) := by omega
        show [I _, I _] = [I _, I _]
        rw [q]
      · have hn2 : ¬ (Y[h - 1 - c]).lt X[c] := fun h => by have := lvo_lt.2 h; omega
        have e1 : h - (c + 1) = h - 1 - c := by omega
        simp only [e1, Nat.add_sub_cancel]
        exact hn2
  · have : r = s := by omega
    subst this
    repeat (first|refine zA ?_|refine zB rfl ?_|refine zC ?_|refine zD ?_|refine zE rfl ?_|refine zF ?_|refine zG ?_|refine zH ?_|refine zI ?_|refine zJ ?_|refine zK ?_|refine zL rfl ?_|refine zN rfl ?_)
    refine wp_ret (.inr ⟨by simp, ?_⟩)
    show wp EM _ _ _
    refine wp_sub64 (by omega) (by omega) ?_
    -- the four parts
    have lx1 : (X.take r).length = r := by rw [List.length_take]; omega
    have lx2 : (X.drop r).length = X.length - r := List.length_drop ..
    have ly1 : (Y.take (h - r)).length = h - r := by rw [List.length_take]; omega
    have ly2 : (Y.drop (h - r)).length = Y.length - (h - r) := List.length_drop ..
    have ha : ∀ a ∈ X.take r, ∀ b ∈ Y.drop (h - r), ¬ b.lt a := by
      intro a ha b hb
      obtain ⟨i, hi1, rfl⟩ := List.mem_iff_getElem.1 ha
      obtain ⟨j, hj1, rfl⟩ := List.mem_iff_getElem.1 hb
      rw [lx1] at hi1
      rw [ly2] at hj1
      rw [List.getElem_take, List.getElem_drop]
      have hlor : lo < r := by
        rcases hlo with hlo | hlo <;> omega
      have q1 := hs1 (by omega) (by omega) hlor
      have q2 := srt_le sX (i := i) (j := r - 1) (by omega) (by omega)
      have q3 := srt_le sY (i := h - r) (j := h - r + j) (by omega) (by omega)
      exact Lv.le_le (Lv.le_le q2 q1) q3
    have hb : ∀ a ∈ X.drop r, ∀ b ∈ Y.take (h - r), b.lt a := by
      intro a ha b hb
      obtain ⟨i, hi1, rfl⟩ := List.mem_iff_getElem.1 ha
      obtain ⟨j, hj1, rfl⟩ := List.mem_iff_getElem.1 hb
      rw [lx2] at hi1
      rw [ly1] at hj1
      rw [List.getElem_take, List.getElem_drop]
      have hrhi : r < hi := by
        rcases hhi with hhi | hhi <;> omega
      have q1 := hr1 (by omega) (by omega) hrhi
      have q2 := srt_le sX (i := r) (j := r + i) (by omega) (by omega)
      have q3 := srt_le sY (i := j) (j := h - 1 - r) (by omega) (by omega)
      exact Lv.lt_le (Lv.le_lt q3 q1) q2
    have eX : X.take r ++ X.drop r = X := List.take_append_drop ..
    have eY : Y.take (h - r) ++ Y.drop (h - r) = Y := List.take_append_drop ..
    have s1 : Srt (X.take r) := sX.take r
    have s2 : Srt (X.drop r) := sX.drop r
    have s3 : Srt (Y.take (h - r)) := sY.take _
    have s4 : Srt (Y.drop (h - r)) := sY.drop _
    have hcut : ∀ {m1 m2 : List Lv}, StS (X.take r ++ Y.take (h - r)) m1 → StS (X.drop r ++ Y.drop (h - r)) m2 → StS (X ++ Y) (m1 ++ m2) := by
      intro m1 m2 k1 k2
      have := StS.cut (by rw [eX]; exact sX) (by rw [eY]; exact sY) k1 k2 ha hb
      rwa [eX, eY] at this
    have hX1e : (X.drop r = []) ↔ r = X.length := by
      constructor
      · intro e; rw [e] at lx2; simp at lx2; omega
      · intro e; exact List.drop_of_length_le (by omega)
    have hY1e : (Y.take (h - r) = []) ↔ r = h := by
      constructor
      · intro e; rw [e] at ly1; simp at ly1; omega
      · intro e; rw [e]; simp
    generalize hx1 : X.take r = X1 at *
    generalize hx2 : X.drop r = X2 at *
    generalize hy1 : Y.take (h - r) = Y1 at *
    generalize hy2 : Y.drop (h - r) = Y2 at *
    subst eX eY
    simp only [List.length_append] at *
    have e14 : ((P.length + h : Nat) : Int) + ((P.length + (X1.length + X2.length) : Nat) : Int) - ((P.length + r : Nat) : Int) = ((P.length + (X1.length + X2.length) + Y1.length : Nat) : Int) := by omega
    -- they are turned round
    have rot : ∀ {Q' : Post}, (∀ S3, Cx B0 W S3 (.sl v 4 (lvs (P ++ (X1 ++ (Y1 ++ (X2 ++ (Y2 ++ R)))))) :: own) ro → Q' .normal [] S3) → ∀ b : Bool, (b = true ↔ X2 ≠ [] ∧ Y1 ≠ []) → wp EM (Try.a63x23 [v, I (P.length : Int), I ((P.length + (X1.length + X2.length) : Nat) : Int), I ((P.length + (X1.length + X2.length) + (Y1.length + Y2.length) : Nat) : Int), ordF] [I ((P.length + r : Nat) : Int), I ((P.length + r : Nat) : Int)] (I ((P.length + (X1.length + X2.length) + Y1.length : Nat) : Int)) (B b)) S2 Q' := by
      intro Q' hQ b hb2
      unfold Try.a63x23
      cases b with
      | true =>
        obtain ⟨n1, n2⟩ := hb2.1 rfl
        refine wp_ite_t ?_
        have H2 : Cx B0 W S2 (.sl v 4 (lvs ((P ++ X1) ++ (X2 ++ (Y1 ++ (Y2 ++ R))))) :: own) ro := by simpa using H
        have f1 : P.length + r = (P ++ X1).length := by rw [List.length_append]; omega
        have f2 : P.length + (X1.length + X2.length) = (P ++ X1).length + X2.length := by rw [List.length_append]; omega
        have f3 : P.length + (X1.length + X2.length) + Y1.length = (P ++ X1).length + X2.length + Y1.length := by rw [List.length_append]; omega
        show wp EM (.call _ [v, I ((P.length + r : Nat) : Int), I ((P.length + (X1.length + X2.length) : Nat) : Int), I ((P.length + (X1.length + X2.length) + Y1.length : Nat) : Int), ordF] _) S2 Q'
        rw [f3, f2, f1]
        refine wp_call (wpC_mono (rotate_ok (P := P ++ X1) (A := X2) (C := Y1) (R := Y2 ++ R) n1 n2 (by simp only [List.length_append]; omega) H2) fun u S3 H3 => ?_)
        exact wp_ret (hQ _ (by simpa using H3))
      | false =>
        refine wp_ite_f (wp_ret (hQ _ ?_))
        have : X2 = [] ∨ Y1 = [] := by
          rcases X2 with _ | ⟨a, r2⟩
          · exact .inl rfl
          · rcases Y1 with _ | ⟨b, r3⟩
            · exact .inr rfl
            · exact absurd (hb2.2 ⟨by simp, by simp⟩) (by simp)
        rcases this with rfl | rfl <;> simpa using H
    -- then both sides are merged
    have left : ∀ {Q' : Post} {S3 : AH}, Cx B0 W S3 (.sl v 4 (lvs (P ++ (X1 ++ (Y1 ++ (X2 ++ (Y2 ++ R)))))) :: own) ro → (∀ S4 m1, StS (X1 ++ Y1) m1 → m1.length = X1.length + Y1.length → Cx B0 W S4 (.sl v 4 (lvs (P ++ (m1 ++ (X2 ++ (Y2 ++ R))))) :: own) ro → Q' .normal [] S4) → ∀ b : Bool, (b = true ↔ X1 ≠ [] ∧ Y1 ≠ []) → wp EM (Try.a63x24 [v, I (P.length : Int), I ((P.length + (X1.length + X2.length) : Nat) : Int), I ((P.length + (X1.length + X2.length) + (Y1.length + Y2.length) : Nat) : Int), ordF] (I ((P.length + h : Nat) : Int)) [I ((P.length + r : Nat) : Int), I ((P.length + r : Nat) : Int)] (B b)) S3 Q' := by
      intro Q' S3 H3 hQ b hb2
      unfold Try.a63x24
      cases b with
      | true =>
        obtain ⟨n1, n2⟩ := hb2.1 rfl
        refine wp_ite_t ?_
        have f1 : P.length + r = P.length + X1.length := by omega
        have f2 : P.length + h = P.length + X1.length + Y1.length := by omega
        show wp EM (.call _ [v, I (P.length : Int), I ((P.length + r : Nat) : Int), I ((P.length + h : Nat) : Int), ordF] _) S3 Q'
        rw [f2, f1]
        refine wp_call (wpC_mono (ih (X1.length + Y1.length) (by omega) (P := P) (X := X1) (Y := Y1) (R := X2 ++ (Y2 ++ R)) rfl n1 n2 s1 s3 (by simp only [List.length_append]; omega) H3) fun u S4 q => ?_)
        obtain ⟨m1, q1, q2, H4⟩ := q
        exact wp_ret (hQ _ m1 q1 q2 H4)
      | false =>
        refine wp_ite_f (wp_ret (hQ _ (X1 ++ Y1) ?_ (by simp) (by simpa using H3)))
        have : X1 = [] ∨ Y1 = [] := by
          rcases X1 with _ | ⟨a, r2⟩
          · exact .inl rfl
          · rcases Y1 with _ | ⟨b, r3⟩
            · exact .inr rfl
            · exact absurd (hb2.2 ⟨by simp, by simp⟩) (by simp)
        rcases this with rfl | rfl
        · exact StS.self (by simpa using s3)
        · exact StS.self (by simpa using s1)
    have right : ∀ {Q' : Post} {S3 : AH} {m1 : List Lv}, m1.length = X1.length + Y1.length → Cx B0 W S3 (.sl v 4 (lvs (P ++ (m1 ++ (X2 ++ (Y2 ++ R))))) :: own) ro → (∀ S4 m2, StS (X2 ++ Y2) m2 → m2.length = X2.length + Y2.length → Cx B0 W S4 (.sl v 4 (lvs (P ++ (m1 ++ (m2 ++ R)))) :: own) ro → Q' .normal [] S4) → ∀ b : Bool, (b = true ↔ X2 ≠ [] ∧ Y2 ≠ []) → wp EM (Try.a63x25 [v, I (P.length : Int), I ((P.length + (X1.length + X2.length) : Nat) : Int), I ((P.length + (X1.length + X2.length) + (Y1.length + Y2.length) : Nat) : Int), ordF] (I ((P.length + h : Nat) : Int)) (I ((P.length + (X1.length + X2.length) + Y1.length : Nat) : Int)) (B b)) S3 Q' := by
      intro Q' S3 m1 hm1 H3 hQ b hb2
      unfold Try.a63x25
      cases b with
      | true =>
        obtain ⟨n1, n2⟩ := hb2.1 rfl
        refine wp_ite_t ?_
        have f1 : P.length + h = (P ++ m1).length := by rw [List.length_append]; omega
        have f2 : P.length + (X1.length + X2.length) + Y1.length = (P ++ m1).length + X2.length := by rw [List.length_append]; omega
        have f3 : P.length + (X1.length + X2.length) + (Y1.length + Y2.length) = (P ++ m1).length + X2.length + Y2.length := by rw [List.length_append]; omega
        show wp EM (.call _ [v, I ((P.length + h : Nat) : Int), I ((P.length + (X1.length + X2.length) + Y1.length : Nat) : Int), I ((P.length + (X1.length + X2.length) + (Y1.length + Y2.length) : Nat) : Int), ordF] _) S3 Q'
        rw [f3, f2, f1]
        refine wp_call (wpC_mono (ih (X2.length + Y2.length) (by omega) (P := P ++ m1) (X := X2) (Y := Y2) (R := R) rfl n1 n2 s2 s4 (by simp only [List.length_append]; omega) (by simpa using H3)) fun u S4 q => ?_)
        obtain ⟨m2, q1, q2, H4⟩ := q
        exact wp_ret (hQ _ m2 q1 q2 (by simpa using H4))
      | false =>
        refine wp_ite_f (wp_ret (hQ _ (X2 ++ Y2) ?_ (by simp) (by simpa using H3)))
        have : X2 = [] ∨ Y2 = [] := by
          rcases X2 with _ | ⟨a, r2⟩
          · exact .inl rfl
          · rcases Y2 with _ | ⟨b, r3⟩
            · exact .inr rfl
            · exact absurd (hb2.2 ⟨by simp, by simp⟩) (by simp)
        rcases this with rfl | rfl
        · exact StS.self (by simpa using s4)
        · exact StS.self (by simpa using s2)
    have nX1 : X1 ≠ [] ↔ 0 < r := by rw [← List.length_pos_iff]; omega
    have nX2 : X2 ≠ [] ↔ r < X1.length + X2.length := by rw [← List.length_pos_iff]; omega
    have nY1 : Y1 ≠ [] ↔ r < h := by rw [← List.length_pos_iff]; omega
    have nY2 : Y2 ≠ [] ↔ h < r + (Y1.length + Y2.length) := by rw [← List.length_pos_iff]; omega
    have e14' : I (((P.length + h : Nat) : Int) + ((P.length + (X1.length + X2.length) : Nat) : Int) - ((P.length + r : Nat) : Int)) = I ((P.length + (X1.length + X2.length) + Y1.length : Nat) : Int) := by rw [e14]
    refine wp_op (v := B (decide (((P.length + r : Nat) : Int) < ((P.length + (X1.length + X2.length) : Nat) : Int)))) e_lss ?_
    show wp EM (.gop (B _) true (.mv _) fun v16 => Try.a63x28 _ _ _ (I _) _ v16) S2 _
    rw [e14]
    -- is it turned round?
    unfold Try.a63x28
    refine cond1 _ _ _ _ fun z hz => ?_
    refine wp_bind (rot ?_ z (by rw [hz, nX2, nY1]; omega))
    intro S3 H3
    show wp EM _ _ _
    unfold Try.a63x27
    refine wp_op e_lss ?_
    refine cond1 _ _ _ _ fun z hz => ?_
    refine wp_bind (left H3 ?_ z (by rw [hz, nX1, nY1]; omega))
    intro S4 m1 k1 k2 H4
    show wp EM _ _ _
    unfold Try.a63x26
    refine wp_op e_lss ?_
    refine cond1 _ _ _ _ fun z hz => ?_
    refine wp_bind (right k2 H4 ?_ z (by rw [hz, nX2, nY2]; omega))
    intro S5 m2 k3 k4 H5
    show wp EM _ _ _
    refine wp_ret ⟨rfl, m1 ++ m2, hcut k1 k3, by rw [List.length_append]; omega, by simpa using H5⟩
end
end Go.Abs
