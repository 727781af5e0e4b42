/- functions of this cut: what they compute, in the abstract machine. Conditions: stated in each theorem -/
import Derived.Test.YtdidccjcbfcklaaGreatM2
set_option linter.unusedVariables false
set_option linter.unusedSectionVars false
set_option linter.unusedSimpArgs false
set_option linter.unusedSectionVars false
namespace Go.Abs
variable [Ek]
open Go.Proofs
set_option maxRecDepth 100000
set_option linter.unusedVariables false
open Tsk (Tk tks tchk)
section
variable {B0 S : AH} {W : List Nat} {own E R : List Own} {ro : List Fct} {Q : Post} {k : AV → AC}
theorem wp_lits (H : Cx B0 W S own ro) {n : Nat} {ps : List (Nat × Nat × AV)} (l : List Int) (he : fillP (repZero [I 0] n) ps = some (l.map fun a => I a)) (hn : l.length = n)
    (h : ∀ v S1, Cx B0 W S1 own (.sl v 1 (ints l) :: ro) → wp EM (k v) S1 Q) : wp EM (.op (.bslice 1 n [I 0] ps) k) S Q := by
  refine wp_op (v := .sl S.next 0 n n) (S1 := S.new (.row (l.map fun a => I a))) ?_ (h _ _ (H.addNewRo (Grows.new S _) (φ := .sl (.sl S.next 0 n n) 1 (ints l)) ?_ ?_))
  · show nBslice 1 n [I 0] ps S = _
    unfold nBslice
    rw [he]
    have e : (Nat.beq (lenL (l.map fun a => I a)) (Nat.mul n 1) && Nat.beq (lenL [I 0]) 1) = true := by
      rw [lenL_eq, List.length_map, hn, show Nat.mul n 1 = n from Nat.mul_one n, Nat.beq_refl]; rfl
    simp only [e]
    rfl
  · refine .inr ⟨S.next, 0, l.map fun a => I a, .inl ⟨n, by rw [ints_len]; omega, by simp [hn], by rw [ints_len, hn]⟩, row_cells (get_new_same _ _), ?_, ?_⟩
    · rw [ints_len, List.drop_zero, List.take_of_length_le (by simp)]
      unfold ints
      clear he hn h
      induction l with
      | nil => rfl
      | cons a r ih => simp only [List.map_cons, List.flatten_cons, ih]; rfl
    · intro x hx
      obtain ⟨a, _, rfl⟩ := List.mem_map.1 hx
      rfl
  · intro id hid
    simp only [Fct.ids, vids, List.mem_singleton] at hid
    subst hid
    exact ⟨Nat.le_refl _, by simp [AH.new]⟩
theorem sameF_ok {a b : AV} {L : List Fi} (ha : RoSl S a 2 (fis L)) (hb : RoSl S b 2 (fis L)) (hl : L.length < 1000000) :
    wpC EM (.fn (.func 15) [] []) [a, b] S fun r S' => r = B true ∧ Grows S S' := by
  refine wpC_fn (b := Tryz.a15) rfl rfl ?_
  have H := Cx.ro2 ha hb
  rw [Tryz.u15]
  refine wp_len H (by repeat (first | exact List.Mem.head _ | apply List.Mem.tail)) ?_
  refine wp_len H (by repeat (first | exact List.Mem.head _ | apply List.Mem.tail)) ?_
  refine wp_eql_t rfl ?_
  skip
  refine wp_bind (wp_loop (wpL_inv (fun m vs S1 => ∃ (i : Nat), vs = [I (i : Int), B true] ∧ i ≤ L.length ∧ m = L.length - i ∧ Cx S [] S1 [] [.sl a 2 (fis L), .sl b 2 (fis L)]) ?_ L.length ⟨0, rfl, by omega, by omega, H⟩))
  rintro m vs S1 ⟨i, rfl, hi, rfl, H⟩
  try(refine zz ?_;(repeat constructor);intro _)
  refine wp_len H (by repeat (first | exact List.Mem.head _ | apply List.Mem.tail)) ?_
  rw [fis_len]
  skip
  try(refine zz ?_;(repeat constructor);intro _)
  refine wp_lss (fun hlt => ?_) (fun hge => ?_)
  · have hlt : i < L.length := by omega
    try(refine zz ?_;(repeat constructor);intro _)
    refine wp_bind ?_
    skip
    refine wp_saddr (v := a) (L := fis L) (i := i) H (by repeat (first | exact List.Mem.head _ | apply List.Mem.tail)) (fis_get hlt) fun q qo H1 => ?_
    refine wp_loada (n := 2) H1 (cs := L[i].cs) (by repeat (first | exact List.Mem.head _ | apply List.Mem.tail)) (Nat.le_refl _) ?_
    refine wp_saddr (v := b) (L := fis L) (i := i) H1.tl (by repeat (first | exact List.Mem.head _ | apply List.Mem.tail)) (fis_get hlt) fun q2 qo2 H2 => ?_
    refine wp_loada (n := 2) H2 (cs := L[i].cs) (by repeat (first | exact List.Mem.head _ | apply List.Mem.tail)) (Nat.le_refl _) ?_
    refine wp_op e_eqF ?_
    refine wp_ret ?_
    show wp EM _ _ _
    skip
    refine wp_add64 (by omega) (by omega) (wp_ret (.inl ⟨rfl, L.length - (i + 1), by omega, i + 1, by simp [nth], by omega, rfl, H2.tl⟩))
  · try(refine zz ?_;(repeat constructor);intro _)
    refine wp_ret (.inr ⟨by simp, ?_⟩)
    show wp EM _ _ _
    exact wp_ret ⟨rfl, rfl, H.grows⟩
variable {w : Nat} {x : Wl} {blk : List Own}
end
end Go.Abs
set_option linter.unusedSectionVars false
namespace Go.Abs
variable [Ek]
open Go.Proofs
set_option maxRecDepth 100000
set_option linter.unusedVariables false
open Tsk (Tk tks tchk)
section
variable {B0 S : AH} {W : List Nat} {own E R : List Own} {ro : List Fct} {Q : Post} {k : AV → AC} {w : Nat} {x : Wl} {blk : List Own}
end
end Go.Abs
set_option linter.unusedSectionVars false
namespace Go.Abs
variable [Ek]
open Go.Proofs
set_option maxRecDepth 100000
set_option linter.unusedVariables false
open Tsk (Tk tks tchk)
section
variable {B0 S : AH} {W : List Nat} {own E R : List Own} {ro : List Fct} {Q : Post} {k : AV → AC} {w : Nat} {x : Wl} {blk : List Own}
end
end Go.Abs
set_option linter.unusedSectionVars false
namespace Go.Abs
variable [Ek]
open Go.Proofs
set_option maxRecDepth 100000
set_option linter.unusedVariables false
section
variable {B0 S : AH} {W : List Nat} {own E R : List Own} {ro : List Fct} {Q : Post} {k : AV → AC} {w : Nat} {x : Wl} {blk : List Own}
theorem pick_bd {a n : Int} (h : 0 < n) : 0 ≤ pick a n ∧ pick a n < n := by
  unfold pick
  rw [if_neg (by omega)]
  exact ⟨Int.emod_nonneg _ (by omega), Int.emod_lt_of_pos _ h⟩
end
end Go.Abs
set_option linter.unusedSectionVars false
namespace Go.Abs
variable [Ek]
open Go.Proofs
set_option maxRecDepth 100000
set_option linter.unusedVariables false
section
variable {B0 S : AH} {W : List Nat} {own E R : List Own} {ro : List Fct} {Q : Post} {k : AV → AC} {w : Nat} {x : Wl} {blk : List Own}
end
end Go.Abs
set_option linter.unusedSectionVars false
namespace Go.Abs
variable [Ek]
open Go.Proofs
set_option maxRecDepth 100000
set_option linter.unusedVariables false
theorem wp_mkslice1 {M : Mach} {B0 S : AH} {W : List Nat} {own : List Own} {ro : List Fct} {Q : Post} {k : AV → AC} (H : Cx B0 W S own ro) {z : AV} {bytes n : Nat} (hb : bytes * n ≤ 140737488355328) (hn : n ≤ 9223372036854775807)
    (h : ∀ t S1, Cx B0 W S1 (.sl t 1 (List.replicate n [z]) :: own) ro → wp M (k t) S1 Q) : wp M (.op (.mkslice 1 bytes [z] (I (n : Int)) (I (n : Int))) k) S Q := by
  have hz : ∀ m : Nat, repZero [z] m = List.replicate m z := by
    intro m
    induction m with
    | zero => rfl
    | succ m ih =>
      show appL [z] (repZero [z] m) = _
      rw [ih, appL_eq]; rfl
  have hnat : nat? (n : Int) = some n := by
    unfold nat?
    rfl
  refine wp_op (v := .sl S.next 0 n n) (S1 := S.new (.row (List.replicate n z))) ?_ (h _ _ (H.addOwn (Grows.new S _) (.inr ⟨S.next, 0, List.replicate n z, .inl ⟨n, by simp, by simp, by simp⟩, get_new_same _ _, ?_, ?_⟩) ?_))
  · show nMkslice 1 bytes [z] (I (n : Int)) (I (n : Int)) S = _
    unfold nMkslice
    simp only [asInt, vInt, hnat]
    have e : (Nat.ble n n && Nat.ble (Nat.mul bytes n) 140737488355328 && Nat.ble n 9223372036854775807 && Nat.beq (lenL [z]) 1) = true := by
      have hb' : Nat.ble (Nat.mul bytes n) 140737488355328 = true := ble_t hb
      rw [ble_t (Nat.le_refl n), hb', ble_t hn]; rfl
    rw [e, hz]
    rfl
  · have : ∀ m : Nat, (List.replicate m [z]).flatten = List.replicate m z := by
      intro m
      induction m with
      | zero => rfl
      | succ m ih => rw [List.replicate_succ, List.flatten_cons, ih]; rfl
    rw [this]; simp
  · intro x hx
    rw [(List.mem_replicate.1 hx).2]; rfl
  · intro j hj
    simp only [Own.ids, vids, List.mem_singleton] at hj
    subst hj
    simp
/-! ### levels -/
section
variable {B0 S : AH} {W : List Nat} {own E R : List Own} {ro : List Fct} {Q : Post} {k : AV → AC} {w : Nat} {x : Wl} {blk : List Own}
end
end Go.Abs
set_option linter.unusedSectionVars false
namespace Go.Abs.Tsk
variable [Ek]
theorem since_time {f e i : Int} (h : TOk f e) (h0 : 0 ≤ i) (h1 : i < many f e) : since f e (f + i * e) = i := by
  have a := time_lt (b := f + i * e) h h0 h1
  by_cases hi : i = 0
  · have := since_bd (now := f + i * e) h
    have : ¬ i < since f e (f + i * e) := fun k => by have := a.2 k; omega
    omega
  · have b := time_lt (b := f + i * e) (i := i - 1) h (by omega) (by omega)
    have e1 : (i - 1) * e = i * e - e := by rw [Int.sub_mul]; omega
    rw [e1] at b
    have := b.1 (by have := h.e0; omega)
    have : ¬ i < since f e (f + i * e) := fun k => by have := a.2 k; omega
    omega
end Go.Abs.Tsk
namespace Go.Abs
variable [Ek]
open Go.Proofs
set_option maxRecDepth 100000
set_option linter.unusedVariables false
open Tsk (Tk tks tchk timed since many TOk count allN)
/-! ### the times of tasks, and what a run tells of them -/
def isT (x : Tk) (a : Nat) : Prop := timed x = true ∧ ∃ i : Int, 0 ≤ i ∧ i < many x.first x.every ∧ (a : Int) = x.first + i * x.every
theorem nxt_isT {x : Tk} {c : Int} {a : Nat} (h : nxt x c = some a) : isT x a ∧ since x.first x.every (a : Int) = since x.first x.every c := by
  unfold nxt at h
  split at h
  · next hc =>
    cases h
    have hT := Tsk.timed_ok hc.1
    have h0 := (Tsk.since_bd (now := c) hT).1
    have h1 := Tsk.time_bd hT h0 hc.2
    have h2 := hT.f0
    have e : ((x.first + since x.first x.every c * x.every).toNat : Int) = x.first + since x.first x.every c * x.every := by omega
    refine ⟨⟨hc.1, _, h0, hc.2, e⟩, ?_⟩
    rw [e]
    exact Tsk.since_time hT h0 hc.2
  · cases h
theorem isT_since {x : Tk} {a : Nat} (h : isT x a) : since x.first x.every ((a : Int) + 1) = since x.first x.every (a : Int) + 1 := by
  obtain ⟨ht, i, h0, h1, e⟩ := h
  have hT := Tsk.timed_ok ht
  rw [e, Tsk.since_time hT h0 h1]
  have l1 := Tsk.time_lt (b := x.first + i * x.every + 1) hT h0 h1
  have hb := Tsk.since_bd (now := x.first + i * x.every + 1) hT
  have g1 := l1.1 (by omega)
  by_cases h2 : i + 1 < many x.first x.every
  · have l2 := Tsk.time_lt (b := x.first + i * x.every + 1) hT (show 0 ≤ i + 1 by omega) h2
    have e1 : (i + 1) * x.every = i * x.every + x.every := by rw [Int.add_mul]; omega
    rw [e1] at l2
    have : ¬ i + 1 < since x.first x.every (x.first + i * x.every + 1) := fun k => by have := l2.2 k; have := hT.e0; omega
    omega
  · omega
theorem nxt_count {x : Tk} {c : Int} {a : Nat} (h : nxt x c = some a) (hca : c ≤ a) (b : Int) : count x c b = count x a b := by
  obtain ⟨h1, h2⟩ := nxt_isT h
  have hT := Tsk.timed_ok h1.1
  unfold count
  by_cases hb : (a : Int) < b
  · rw [if_pos ⟨h1.1, by omega⟩, if_pos ⟨h1.1, hb⟩, h2]
  · rw [if_neg (c := timed x = true ∧ (a : Int) < b) (fun k => hb k.2)]
    split
    · next hc =>
      have m1 := Tsk.since_mono hT (show c ≤ b by omega)
      have m2 := Tsk.since_mono hT (show b ≤ (a : Int) by omega)
      omega
    · rfl
theorem nxt_none {x : Tk} {c : Int} (h : nxt x c = none) (b : Int) : count x c b = 0 := by
  unfold nxt at h
  split at h
  · cases h
  · next hc =>
    unfold count
    split
    · next hd =>
      have hT := Tsk.timed_ok hd.1
      have m1 := Tsk.since_mono hT (show c ≤ b by omega)
      have b1 := Tsk.since_bd (now := b) hT
      have b2 := Tsk.since_bd (now := c) hT
      have : ¬ since x.first x.every c < many x.first x.every := fun k => hc ⟨hd.1, k⟩
      omega
    · rfl
theorem isT_count {x : Tk} {a : Nat} (h : isT x a) (b : Int) : count x a b = if (a : Int) < b then 1 + count x ((a : Int) + 1) b else 0 := by
  have hT := Tsk.timed_ok h.1
  have hs := isT_since h
  unfold count
  by_cases hb : (a : Int) < b
  · rw [if_pos ⟨h.1, hb⟩, if_pos hb]
    by_cases hb2 : (a : Int) + 1 < b
    · rw [if_pos ⟨h.1, hb2⟩]; omega
    · rw [if_neg (fun k => hb2 k.2)]
      have : b = (a : Int) + 1 := by omega
      rw [this]; omega
  · rw [if_neg (fun k => hb k.2), if_neg hb]
def cnt1 (l : List Tk) (b : Int) (f : Fi) : Int := match l[f.id]? with
  | some t => count t f.tm b
  | none => 0
def pend (l : List Tk) (b : Int) : List Fi → Int
  | [] => 0
  | f :: r => cnt1 l b f + pend l b r
theorem cnt1_nn (l : List Tk) (b : Int) (f : Fi) : 0 ≤ cnt1 l b f := by
  unfold cnt1
  split
  · exact (Tsk.count_bd _ _ _).1
  · omega
theorem pend_nn (l : List Tk) (b : Int) : ∀ L, 0 ≤ pend l b L
  | [] => Int.le_refl _
  | f :: r => by have := cnt1_nn l b f; have := pend_nn l b r; unfold pend; omega
theorem pend_ins (l : List Tk) (b : Int) (f : Fi) : ∀ L, pend l b (ins f L) = cnt1 l b f + pend l b L
  | [] => rfl
  | g :: r => by
    unfold ins
    split
    · rfl
    · unfold pend; rw [pend_ins l b f r]; omega
def TG (l : List Tk) (L : List Fi) : Prop := ∀ f ∈ L, ∃ t, l[f.id]? = some t ∧ isT t f.tm
def againL (l : List Tk) (f : Fi) (L' : List Fi) : List Fi := match l[f.id]? with
  | some t => (match nxt t ((f.tm : Int) + 1) with
    | some a => ins ⟨f.id, a⟩ L'
    | none => L')
  | none => L'
theorem again_L (l : List Tk) (f : Fi) (now : Nat) (L' : List Fi) : again l f ⟨now, L'⟩ = ⟨now, againL l f L'⟩ := by
  unfold again againL
  cases l[f.id]? with
  | none => rfl
  | some t =>
    simp only
    cases nxt t ((f.tm : Int) + 1) with
    | none => rfl
    | some a => rfl
def runM (l : List Tk) (to : Int) : Nat → List Fi → Option (List Fi × List Fi)
  | 0, _ => none
  | n + 1, [] => some ([], [])
  | n + 1, f :: L' => if (f.tm : Int) ≤ to then (if n = 0 then none else (runM l to n (againL l f L')).map fun r => (r.1, f :: r.2)) else some (f :: L', [])
theorem runN_runM (l : List Tk) (to : Int) : ∀ n (x : Wl) out, runN l to n x out = (runM l to n x.L).map fun r => (⟨x.now, r.1⟩, out ++ r.2)
  | 0, _, _ => rfl
  | n + 1, ⟨now, []⟩, out => by simp [runN, runM]
  | n + 1, ⟨now, f :: L'⟩, out => by
    unfold runN runM
    simp only
    split
    · split
      · rfl
      · rw [again_L, runN_runM l to n]
        simp only [Option.map_map]
        congr 1
        funext r
        simp
    · simp
theorem runM_spec {l : List Tk} {to : Int} (hto : to ≤ 1099511627776) : ∀ (n : Nat) (x : Wl), x.Ok → TG l x.L → pend l (to + 1) x.L < n → ∃ M D, runM l to n x.L = some (M, D) ∧ Wl.Ok ⟨x.now, M⟩ ∧ TG l M ∧ (∀ f ∈ M, to < (f.tm : Int)) ∧ (D.length : Int) = pend l (to + 1) x.L ∧
    (∀ f ∈ D, (∃ t, l[f.id]? = some t ∧ isT t f.tm) ∧ x.now ≤ f.tm ∧ (f.tm : Int) ≤ to) ∧ Ord D ∧ (∀ f0 : Fi, (∀ g ∈ x.L, f0.lt g) → ∀ d ∈ D, f0.lt d) ∧ (∀ b, to + 1 ≤ b → pend l b x.L = (D.length : Int) + pend l b M) := by
  intro n
  induction n with
  | zero => intro x _ _ hp; have := pend_nn l (to + 1) x.L; omega
  | succ n ih =>
    rintro ⟨now, L⟩ ho hg hp
    cases L with
    | nil => exact ⟨[], [], rfl, ho, hg, by simp, rfl, by simp, List.Pairwise.nil, by simp, fun b _ => by simp [pend]⟩
    | cons f L' =>
      have hf := hg f (by simp)
      obtain ⟨t, ht, hiT⟩ := hf
      have hc1 : ∀ b, cnt1 l b f = if (f.tm : Int) < b then 1 + count t ((f.tm : Int) + 1) b else 0 := fun b => by unfold cnt1; rw [ht]; exact isT_count hiT b
      have hok' : Wl.Ok ⟨now, L'⟩ := ho.tail rfl
      have hnot := notin_tail ho (f := f) (L' := L') rfl
      have hordc := List.pairwise_cons.1 ho.ord
      by_cases hle : (f.tm : Int) ≤ to
      · -- it is told
        have hge := ho.ge f (by simp)
        have hle2 := ho.le f (by simp)
        have hid := ho.id f (by simp)
        have hx2 : Wl.Ok ⟨now, againL l f L'⟩ ∧ TG l (againL l f L') ∧ (∀ b, pend l b (againL l f L') = count t ((f.tm : Int) + 1) b + pend l b L') ∧ (∀ g ∈ againL l f L', f.lt g) := by
          unfold againL
          rw [ht]
          simp only
          cases hn : nxt t ((f.tm : Int) + 1) with
          | none =>
            exact ⟨hok', fun g hg2 => hg g (by simp [hg2]), fun b => (by show pend l b L' = _; rw [nxt_none hn]; omega), fun g hg2 => hordc.1 g hg2⟩
          | some a =>
            rcases nxt_ok t ((f.tm : Int) + 1) with ⟨a', ha', _, h1, h2⟩ | ⟨h1, _⟩
            · rw [hn] at ha'
              cases ha'
              refine ⟨hok'.ins (f := ⟨f.id, a⟩) (fun g hg2 => hnot g hg2) (by show now ≤ a; have : now ≤ f.tm := hge; omega) h2 hid, fun g hg2 => ?_, fun b => ?_, fun g hg2 => ?_⟩
              · rcases mem_ins.1 hg2 with rfl | hg2
                · exact ⟨t, ht, (nxt_isT hn).1⟩
                · exact hg g (by simp [hg2])
              · rw [pend_ins]
                have : cnt1 l b ⟨f.id, a⟩ = count t (a : Int) b := by unfold cnt1; rw [show (Fi.mk f.id a).id = f.id from rfl, ht]
                rw [this, nxt_count hn h1]
              · rcases mem_ins.1 hg2 with rfl | hg2
                · exact .inl (by show f.tm < a; omega)
                · exact hordc.1 g hg2
            · rw [hn] at h1; cases h1
        obtain ⟨hok2, hg2, hp2, hlt2⟩ := hx2
        have hpe : pend l (to + 1) (f :: L') = 1 + pend l (to + 1) (againL l f L') := by
          show cnt1 l (to + 1) f + pend l (to + 1) L' = _
          rw [hc1, if_pos (by omega), hp2]; omega
        have hp' : pend l (to + 1) (f :: L') < ((n + 1 : Nat) : Int) := hp
        obtain ⟨M, D, hr, hokM, hgM, hM, hlen, hD, hoD, hlow, hpb⟩ := ih ⟨now, againL l f L'⟩ hok2 hg2 (by show pend l (to + 1) (againL l f L') < _; omega)
        have hn0 : n ≠ 0 := by have := pend_nn l (to + 1) (againL l f L'); omega
        refine ⟨M, f :: D, ?_, hokM, hgM, hM, ?_, ?_, ?_, ?_, ?_⟩
        · unfold runM
          rw [if_pos hle, if_neg hn0]
          rw [show runM l to n (againL l f L') = some (M, D) from hr]; rfl
        · show ((D.length + 1 : Nat) : Int) = pend l (to + 1) (f :: L')
          have hlen : (D.length : Int) = pend l (to + 1) (againL l f L') := hlen
          omega
        · intro g hgD
          rcases List.mem_cons.1 hgD with rfl | hgD
          · exact ⟨⟨t, ht, hiT⟩, hge, hle⟩
          · exact hD g hgD
        · exact List.pairwise_cons.2 ⟨fun d hd => hlow f hlt2 d hd, hoD⟩
        · intro f0 h0 d hd
          have h1 : f0.lt f := h0 f (by simp)
          rcases List.mem_cons.1 hd with rfl | hd
          · exact h1
          · exact Fi.lt_trans h1 (hlow f hlt2 d hd)
        · intro b hb
          have := hpb b hb
          show cnt1 l b f + pend l b L' = _
          rw [hc1, if_pos (by omega)]
          have h3 : pend l b (againL l f L') = (D.length : Int) + pend l b M := this
          rw [hp2] at h3
          simp only [List.length_cons]
          omega
      · have hall : ∀ g ∈ f :: L', to < (g.tm : Int) := by
          intro g hgm
          rcases List.mem_cons.1 hgm with rfl | hgm
          · omega
          · have := hordc.1 g hgm; unfold Fi.lt at this; omega
        have hz : ∀ L : List Fi, (∀ g ∈ L, to < (g.tm : Int)) → pend l (to + 1) L = 0 := by
          intro L
          induction L with
          | nil => intro _; rfl
          | cons g r ihr =>
            intro hL
            unfold pend
            rw [ihr fun a ha => hL a (by simp [ha])]
            unfold cnt1
            split
            · unfold count; rw [if_neg (fun k => by have := hL g (by simp); omega)]; rfl
            · rfl
        refine ⟨f :: L', [], by unfold runM; rw [if_neg hle], ho, hg, hall, ?_, by simp, List.Pairwise.nil, by simp, fun b _ => by simp⟩
        show (0 : Int) = _
        rw [hz _ hall]
theorem load_spec {now : Nat} (hn : now ≤ 1099511627776) {l : List Tk} (hl : l.length ≤ 32) : ∀ i, i ≤ l.length → (loadN ⟨now, []⟩ l i).Ok ∧ TG l (loadN ⟨now, []⟩ l i).L ∧ (∀ f ∈ (loadN ⟨now, []⟩ l i).L, f.id < i) ∧ ∀ b, pend l b (loadN ⟨now, []⟩ l i).L = allN l now b i
  | 0, _ => ⟨Wl.Ok.empty hn, (by intro f hf; cases hf), (by intro f hf; cases hf), fun b => rfl⟩
  | i + 1, hi => by
    obtain ⟨h1, h2, h3, h4⟩ := load_spec hn hl i (by omega)
    have hnow := loadN_now ⟨now, []⟩ l i
    have e : l[i]? = some l[i] := List.getElem?_eq_getElem (by omega)
    have hN : loadN ⟨now, []⟩ l (i + 1) = match nxt l[i] now with | some a => (loadN ⟨now, []⟩ l i).put ⟨i, a⟩ | none => loadN ⟨now, []⟩ l i := by
      conv => lhs; unfold loadN
      rw [e]; rfl
    have hA : ∀ b, allN l now b (i + 1) = allN l now b i + count l[i] now b := fun b => Tsk.allN_succ (by omega)
    cases hx : nxt l[i] now with
    | none =>
      rw [hx] at hN
      rw [hN]
      refine ⟨h1, h2, fun f hf => by have := h3 f hf; omega, fun b => ?_⟩
      rw [h4, hA, nxt_none hx]; omega
    | some a =>
      rw [hx] at hN
      rw [hN]
      rcases nxt_ok l[i] now with ⟨a', ha', _, g1, g2⟩ | ⟨g1, _⟩
      · rw [hx] at ha'
        cases ha'
        have hrm : rmv i (loadN ⟨now, []⟩ l i).L = (loadN ⟨now, []⟩ l i).L := List.filter_eq_self.2 fun f hf => by have := h3 f hf; simp only [bne_iff_ne]; omega
        refine ⟨h1.put (by rw [hnow]; show now ≤ a; omega) g2 (by show i < 256; omega), fun f hf => ?_, fun f hf => ?_, fun b => ?_⟩
        · rcases mem_ins.1 hf with rfl | hf
          · exact ⟨l[i], e, (nxt_isT hx).1⟩
          · exact h2 f (mem_rmv.1 hf).1
        · rcases mem_ins.1 hf with rfl | hf
          · show i < i + 1; omega
          · have := h3 f (mem_rmv.1 hf).1; omega
        · show pend l b (ins ⟨i, a⟩ (rmv i (loadN ⟨now, []⟩ l i).L)) = _
          rw [pend_ins, hrm, h4, hA]
          have : cnt1 l b ⟨i, a⟩ = count l[i] (a : Int) b := by unfold cnt1; rw [show (Fi.mk i a).id = i from rfl, e]
          rw [this, nxt_count hx g1]; omega
      · rw [hx] at g1; cases g1
end Go.Abs
