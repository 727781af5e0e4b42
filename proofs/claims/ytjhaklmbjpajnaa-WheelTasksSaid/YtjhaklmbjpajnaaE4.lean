/- functions of this cut: what they compute, in the abstract machine. Conditions: stated in each theorem -/
import Derived.Test.YtjhaklmbjpajnaaE3
set_option linter.unusedVariables false
set_option linter.unusedSimpArgs false
namespace Go.Abs.Tsk
theorem since_time {f e i : Int} (h : TOk f e) (h0 : 0 ≤ i) (h1 : i < many f e) : since f e (f + i * e) = i := by
  have a := time_lt (b := f + i * e) h h0 h1
  by_cases hi : i = 0
  · have := since_bd (now := f + i * e) h
    have : ¬ i < since f e (f + i * e) := fun k => by have := a.2 k; omega
    omega
  · have b := time_lt (b := f + i * e) (i := i - 1) h (by omega) (by omega)
    have e1 : (i - 1) * e = i * e - e := by rw [Int.sub_mul]; omega
    rw [e1] at b
    have := b.1 (by have := h.e0; omega)
    have : ¬ i < since f e (f + i * e) := fun k => by have := a.2 k; omega
    omega
end Go.Abs.Tsk
namespace Go.Abs
open Go.Proofs
set_option maxRecDepth 100000
set_option linter.unusedVariables false
open Tsk (Tk tks tchk timed since many TOk count allN)
/-! ### the times of tasks, and what a run tells of them -/
def isT (x : Tk) (a : Nat) : Prop := timed x = true ∧ ∃ i : Int, 0 ≤ i ∧ i < many x.first x.every ∧ (a : Int) = x.first + i * x.every
theorem nxt_isT {x : Tk} {c : Int} {a : Nat} (h : nxt x c = some a) : isT x a ∧ since x.first x.every (a : Int) = since x.first x.every c := by
  unfold nxt at h
  split at h
  · next hc =>
    cases h
    have hT := Tsk.timed_ok hc.1
    have h0 := (Tsk.since_bd (now := c) hT).1
    have h1 := Tsk.time_bd hT h0 hc.2
    have h2 := hT.f0
    have e : ((x.first + since x.first x.every c * x.every).toNat : Int) = x.first + since x.first x.every c * x.every := by omega
    refine ⟨⟨hc.1, _, h0, hc.2, e⟩, ?_⟩
    rw [e]
    exact Tsk.since_time hT h0 hc.2
  · cases h
theorem isT_since {x : Tk} {a : Nat} (h : isT x a) : since x.first x.every ((a : Int) + 1) = since x.first x.every (a : Int) + 1 := by
  obtain ⟨ht, i, h0, h1, e⟩ := h
  have hT := Tsk.timed_ok ht
  rw [e, Tsk.since_time hT h0 h1]
  have l1 := Tsk.time_lt (b := x.first + i * x.every + 1) hT h0 h1
  have hb := Tsk.since_bd (now := x.first + i * x.every + 1) hT
  have g1 := l1.1 (by omega)
  by_cases h2 : i + 1 < many x.first x.every
  · have l2 := Tsk.time_lt (b := x.first + i * x.every + 1) hT (show 0 ≤ i + 1 by omega) h2
    have e1 : (i + 1) * x.every = i * x.every + x.every := by rw [Int.add_mul]; omega
    rw [e1] at l2
    have : ¬ i + 1 < since x.first x.every (x.first + i * x.every + 1) := fun k => by have := l2.2 k; have := hT.e0; omega
    omega
  · omega
theorem nxt_count {x : Tk} {c : Int} {a : Nat} (h : nxt x c = some a) (hca : c ≤ a) (b : Int) : count x c b = count x a b := by
  obtain ⟨h1, h2⟩ := nxt_isT h
  have hT := Tsk.timed_ok h1.1
  unfold count
  by_cases hb : (a : Int) < b
  · rw [if_pos ⟨h1.1, by omega⟩, if_pos ⟨h1.1, hb⟩, h2]
  · rw [if_neg (c := timed x = true ∧ (a : Int) < b) (fun k => hb k.2)]
    split
    · next hc =>
      have m1 := Tsk.since_mono hT (show c ≤ b by omega)
      have m2 := Tsk.since_mono hT (show b ≤ (a : Int) by omega)
      omega
    · rfl
theorem nxt_none {x : Tk} {c : Int} (h : nxt x c = none) (b : Int) : count x c b = 0 := by
  unfold nxt at h
  split at h
  · cases h
  · next hc =>
    unfold count
    split
    · next hd =>
      have hT := Tsk.timed_ok hd.1
      have m1 := Tsk.since_mono hT (show c ≤ b by omega)
      have b1 := Tsk.since_bd (now := b) hT
      have b2 := Tsk.since_bd (now := c) hT
      have : ¬ since x.first x.every c < many x.first x.every := fun k => hc ⟨hd.1, k⟩
      omega
    · rfl
theorem isT_count {x : Tk} {a : Nat} (h : isT x a) (b : Int) : count x a b = if (a : Int) < b then 1 + count x ((a : Int) + 1) b else 0 := by
  have hT := Tsk.timed_ok h.1
  have hs := isT_since h
  unfold count
  by_cases hb : (a : Int) < b
  · rw [if_pos ⟨h.1, hb⟩, if_pos hb]
    by_cases hb2 : (a : Int) + 1 < b
    · rw [if_pos ⟨h.1, hb2⟩]; omega
    · rw [if_neg (fun k => hb2 k.2)]
      have : b = (a : Int) + 1 := by omega
      rw [this]; omega
  · rw [if_neg (fun k => hb k.2), if_neg hb]
theorem isT_one {x : Tk} {a : Nat} (h : isT x a) : count x a ((a : Int) + 1) = 1 := by
  rw [isT_count h, if_pos (by omega)]
  unfold count
  rw [if_neg (fun k => by omega)]; rfl
/-- how many times are left of what is set -/
def cnt1 (l : List Tk) (b : Int) (f : Fi) : Int := match l[f.id]? with
  | some t => count t f.tm b
  | none => 0
def pend (l : List Tk) (b : Int) : List Fi → Int
  | [] => 0
  | f :: r => cnt1 l b f + pend l b r
theorem cnt1_nn (l : List Tk) (b : Int) (f : Fi) : 0 ≤ cnt1 l b f := by
  unfold cnt1
  split
  · exact (Tsk.count_bd _ _ _).1
  · omega
theorem pend_nn (l : List Tk) (b : Int) : ∀ L, 0 ≤ pend l b L
  | [] => Int.le_refl _
  | f :: r => by have := cnt1_nn l b f; have := pend_nn l b r; unfold pend; omega
theorem pend_ins (l : List Tk) (b : Int) (f : Fi) : ∀ L, pend l b (ins f L) = cnt1 l b f + pend l b L
  | [] => rfl
  | g :: r => by
    unfold ins
    split
    · rfl
    · unfold pend; rw [pend_ins l b f r]; omega
def TG (l : List Tk) (L : List Fi) : Prop := ∀ f ∈ L, ∃ t, l[f.id]? = some t ∧ isT t f.tm
def againL (l : List Tk) (f : Fi) (L' : List Fi) : List Fi := match l[f.id]? with
  | some t => (match nxt t ((f.tm : Int) + 1) with
    | some a => ins ⟨f.id, a⟩ L'
    | none => L')
  | none => L'
theorem again_L (l : List Tk) (f : Fi) (now : Nat) (L' : List Fi) : again l f ⟨now, L'⟩ = ⟨now, againL l f L'⟩ := by
  unfold again againL
  cases l[f.id]? with
  | none => rfl
  | some t =>
    simp only
    cases nxt t ((f.tm : Int) + 1) with
    | none => rfl
    | some a => rfl
def runM (l : List Tk) (to : Int) : Nat → List Fi → Option (List Fi × List Fi)
  | 0, _ => none
  | n + 1, [] => some ([], [])
  | n + 1, f :: L' => if (f.tm : Int) ≤ to then (if n = 0 then none else (runM l to n (againL l f L')).map fun r => (r.1, f :: r.2)) else some (f :: L', [])
theorem runN_runM (l : List Tk) (to : Int) : ∀ n (x : Wl) out, runN l to n x out = (runM l to n x.L).map fun r => (⟨x.now, r.1⟩, out ++ r.2)
  | 0, _, _ => rfl
  | n + 1, ⟨now, []⟩, out => by simp [runN, runM]
  | n + 1, ⟨now, f :: L'⟩, out => by
    unfold runN runM
    simp only
    split
    · split
      · rfl
      · rw [again_L, runN_runM l to n]
        simp only [Option.map_map]
        congr 1
        funext r
        simp
    · simp
theorem runM_more {l : List Tk} {to : Int} : ∀ {n m : Nat} {L : List Fi} {r : List Fi × List Fi}, n ≤ m → runM l to n L = some r → runM l to m L = some r
  | 0, _, _, _, _, h => by cases h
  | n + 1, 0, _, _, hm, _ => by omega
  | n + 1, m + 1, [], r, hm, h => by unfold runM at h ⊢; exact h
  | n + 1, m + 1, f :: L', r, hm, h => by
    unfold runM at h ⊢
    split at h
    · next hle =>
      rw [if_pos hle]
      split at h
      · cases h
      · next hn =>
        rw [if_neg (by omega)]
        cases hr : runM l to n (againL l f L') with
        | none => rw [hr] at h; cases h
        | some q => rw [hr] at h; rw [runM_more (by omega) hr]; exact h
    · next hle => rw [if_neg hle]; exact h
theorem runM_comp {l : List Tk} {b e : Int} (hbe : b ≤ e) : ∀ {n k : Nat} {L L1 D1 M D2 : List Fi}, runM l b n L = some (L1, D1) → runM l e k L1 = some (M, D2) → runM l e (n + k) L = some (M, D1 ++ D2)
  | 0, _, _, _, _, _, _, h, _ => by cases h
  | n + 1, 0, _, _, _, _, _, _, h => by cases h
  | n + 1, k + 1, [], L1, D1, M, D2, h1, h2 => by
    unfold runM at h1
    cases h1
    exact runM_more (by omega) h2
  | n + 1, k + 1, f :: L', L1, D1, M, D2, h1, h2 => by
    unfold runM at h1
    split at h1
    · next hle =>
      split at h1
      · cases h1
      · next hn =>
        cases hr : runM l b n (againL l f L') with
        | none => rw [hr] at h1; cases h1
        | some q =>
          rw [hr] at h1
          cases h1
          have := runM_comp hbe hr h2
          rw [show n + 1 + (k + 1) = (n + (k + 1)) + 1 by omega]
          unfold runM
          rw [if_pos (by omega), if_neg (by omega), this]
          rfl
    · cases h1
      exact runM_more (by omega) h2
/-- what a run tells, and what it leaves -/
theorem runM_spec {l : List Tk} {to : Int} (hto : to ≤ 1099511627776) : ∀ (n : Nat) (x : Wl), x.Ok → TG l x.L → pend l (to + 1) x.L < n → ∃ M D, runM l to n x.L = some (M, D) ∧ Wl.Ok ⟨x.now, M⟩ ∧ TG l M ∧ (∀ f ∈ M, to < (f.tm : Int)) ∧ (D.length : Int) = pend l (to + 1) x.L ∧
    (∀ f ∈ D, (∃ t, l[f.id]? = some t ∧ isT t f.tm) ∧ x.now ≤ f.tm ∧ (f.tm : Int) ≤ to) ∧ Ord D ∧ (∀ f0 : Fi, (∀ g ∈ x.L, f0.lt g) → ∀ d ∈ D, f0.lt d) ∧ (∀ b, to + 1 ≤ b → pend l b x.L = (D.length : Int) + pend l b M) := by
  intro n
  induction n with
  | zero => intro x _ _ hp; have := pend_nn l (to + 1) x.L; omega
  | succ n ih =>
    rintro ⟨now, L⟩ ho hg hp
    cases L with
    | nil => exact ⟨[], [], rfl, ho, hg, by simp, rfl, by simp, List.Pairwise.nil, by simp, fun b _ => by simp [pend]⟩
    | cons f L' =>
      have hf := hg f (by simp)
      obtain ⟨t, ht, hiT⟩ := hf
      have hc1 : ∀ b, cnt1 l b f = if (f.tm : Int) < b then 1 + count t ((f.tm : Int) + 1) b else 0 := fun b => by unfold cnt1; rw [ht]; exact isT_count hiT b
      have hok' : Wl.Ok ⟨now, L'⟩ := ho.tail rfl
      have hnot := notin_tail ho (f := f) (L' := L') rfl
      have hordc := List.pairwise_cons.1 ho.ord
      by_cases hle : (f.tm : Int) ≤ to
      · -- it is told
        have hge := ho.ge f (by simp)
        have hle2 := ho.le f (by simp)
        have hid := ho.id f (by simp)
        -- the state behind it
        have hx2 : Wl.Ok ⟨now, againL l f L'⟩ ∧ TG l (againL l f L') ∧ (∀ b, pend l b (againL l f L') = count t ((f.tm : Int) + 1) b + pend l b L') ∧ (∀ g ∈ againL l f L', f.lt g) := by
          unfold againL
          rw [ht]
          simp only
          cases hn : nxt t ((f.tm : Int) + 1) with
          | none =>
            exact ⟨hok', fun g hg2 => hg g (by simp [hg2]), fun b => (by show pend l b L' = _; rw [nxt_none hn]; omega), fun g hg2 => hordc.1 g hg2⟩
          | some a =>
            rcases nxt_ok t ((f.tm : Int) + 1) with ⟨a', ha', _, h1, h2⟩ | ⟨h1, _⟩
            · rw [hn] at ha'
              cases ha'
              refine ⟨hok'.ins (f := ⟨f.id, a⟩) (fun g hg2 => hnot g hg2) (by show now ≤ a; have : now ≤ f.tm := hge; omega) h2 hid, fun g hg2 => ?_, fun b => ?_, fun g hg2 => ?_⟩
              · rcases mem_ins.1 hg2 with rfl | hg2
                · exact ⟨t, ht, (nxt_isT hn).1⟩
                · exact hg g (by simp [hg2])
              · rw [pend_ins]
                have : cnt1 l b ⟨f.id, a⟩ = count t (a : Int) b := by unfold cnt1; rw [show (Fi.mk f.id a).id = f.id from rfl, ht]
                rw [this, nxt_count hn h1]
              · rcases mem_ins.1 hg2 with rfl | hg2
                · exact .inl (by show f.tm < a; omega)
                · exact hordc.1 g hg2
            · rw [hn] at h1; cases h1
        obtain ⟨hok2, hg2, hp2, hlt2⟩ := hx2
        have hpe : pend l (to + 1) (f :: L') = 1 + pend l (to + 1) (againL l f L') := by
          show cnt1 l (to + 1) f + pend l (to + 1) L' = _
          rw [hc1, if_pos (by omega), hp2]; omega
        have hp' : pend l (to + 1) (f :: L') < ((n + 1 : Nat) : Int) := hp
        obtain ⟨M, D, hr, hokM, hgM, hM, hlen, hD, hoD, hlow, hpb⟩ := ih ⟨now, againL l f L'⟩ hok2 hg2 (by show pend l (to + 1) (againL l f L') < _; omega)
        have hn0 : n ≠ 0 := by have := pend_nn l (to + 1) (againL l f L'); omega
        refine ⟨M, f :: D, ?_, hokM, hgM, hM, ?_, ?_, ?_, ?_, ?_⟩
        · unfold runM
          rw [if_pos hle, if_neg hn0]
          rw [show runM l to n (againL l f L') = some (M, D) from hr]; rfl
        · show ((D.length + 1 : Nat) : Int) = pend l (to + 1) (f :: L')
          have hlen : (D.length : Int) = pend l (to + 1) (againL l f L') := hlen
          omega
        · intro g hgD
          rcases List.mem_cons.1 hgD with rfl | hgD
          · exact ⟨⟨t, ht, hiT⟩, hge, hle⟩
          · exact hD g hgD
        · exact List.pairwise_cons.2 ⟨fun d hd => hlow f hlt2 d hd, hoD⟩
        · intro f0 h0 d hd
          have h1 : f0.lt f := h0 f (by simp)
          rcases List.mem_cons.1 hd with rfl | hd
          · exact h1
          · exact Fi.lt_trans h1 (hlow f hlt2 d hd)
        · intro b hb
          have := hpb b hb
          show cnt1 l b f + pend l b L' = _
          rw [hc1, if_pos (by omega)]
          have h3 : pend l b (againL l f L') = (D.length : Int) + pend l b M := this
          rw [hp2] at h3
          simp only [List.length_cons]
          omega
      · have hall : ∀ g ∈ f :: L', to < (g.tm : Int) := by
          intro g hgm
          rcases List.mem_cons.1 hgm with rfl | hgm
          · omega
          · have := hordc.1 g hgm; unfold Fi.lt at this; omega
        have hz : ∀ L : List Fi, (∀ g ∈ L, to < (g.tm : Int)) → pend l (to + 1) L = 0 := by
          intro L
          induction L with
          | nil => intro _; rfl
          | cons g r ihr =>
            intro hL
            unfold pend
            rw [ihr fun a ha => hL a (by simp [ha])]
            unfold cnt1
            split
            · unfold count; rw [if_neg (fun k => by have := hL g (by simp); omega)]; rfl
            · rfl
        refine ⟨f :: L', [], by unfold runM; rw [if_neg hle], ho, hg, hall, ?_, by simp, List.Pairwise.nil, by simp, fun b _ => by simp⟩
        show (0 : Int) = _
        rw [hz _ hall]
/-- what is set at first -/
theorem load_spec {now : Nat} (hn : now ≤ 1099511627776) {l : List Tk} (hl : l.length ≤ 32) : ∀ i, i ≤ l.length → (loadN ⟨now, []⟩ l i).Ok ∧ TG l (loadN ⟨now, []⟩ l i).L ∧ (∀ f ∈ (loadN ⟨now, []⟩ l i).L, f.id < i) ∧ ∀ b, pend l b (loadN ⟨now, []⟩ l i).L = allN l now b i
  | 0, _ => ⟨Wl.Ok.empty hn, (by intro f hf; cases hf), (by intro f hf; cases hf), fun b => rfl⟩
  | i + 1, hi => by
    obtain ⟨h1, h2, h3, h4⟩ := load_spec hn hl i (by omega)
    have hnow := loadN_now ⟨now, []⟩ l i
    have e : l[i]? = some l[i] := List.getElem?_eq_getElem (by omega)
    have hN : loadN ⟨now, []⟩ l (i + 1) = match nxt l[i] now with | some a => (loadN ⟨now, []⟩ l i).put ⟨i, a⟩ | none => loadN ⟨now, []⟩ l i := by
      conv => lhs; unfold loadN
      rw [e]; rfl
    have hA : ∀ b, allN l now b (i + 1) = allN l now b i + count l[i] now b := fun b => Tsk.allN_succ (by omega)
    cases hx : nxt l[i] now with
    | none =>
      rw [hx] at hN
      rw [hN]
      refine ⟨h1, h2, fun f hf => by have := h3 f hf; omega, fun b => ?_⟩
      rw [h4, hA, nxt_none hx]; omega
    | some a =>
      rw [hx] at hN
      rw [hN]
      rcases nxt_ok l[i] now with ⟨a', ha', _, g1, g2⟩ | ⟨g1, _⟩
      · rw [hx] at ha'
        cases ha'
        have hrm : rmv i (loadN ⟨now, []⟩ l i).L = (loadN ⟨now, []⟩ l i).L := List.filter_eq_self.2 fun f hf => by have := h3 f hf; simp only [bne_iff_ne]; omega
        refine ⟨h1.put (by rw [hnow]; show now ≤ a; omega) g2 (by show i < 256; omega), fun f hf => ?_, fun f hf => ?_, fun b => ?_⟩
        · rcases mem_ins.1 hf with rfl | hf
          · exact ⟨l[i], e, (nxt_isT hx).1⟩
          · exact h2 f (mem_rmv.1 hf).1
        · rcases mem_ins.1 hf with rfl | hf
          · show i < i + 1; omega
          · have := h3 f (mem_rmv.1 hf).1; omega
        · show pend l b (ins ⟨i, a⟩ (rmv i (loadN ⟨now, []⟩ l i).L)) = _
          rw [pend_ins, hrm, h4, hA]
          have : cnt1 l b ⟨i, a⟩ = count l[i] (a : Int) b := by unfold cnt1; rw [show (Fi.mk i a).id = i from rfl, e]
          rw [this, nxt_count hx g1]; omega
      · rw [hx] at g1; cases g1
end Go.Abs
namespace Go.Abs
open Go.Proofs
set_option maxRecDepth 100000
set_option linter.unusedVariables false
open Tsk (Tk tks tchk timed since many TOk count allN)
theorem cnt1_mono (l : List Tk) {a b : Int} (h : a ≤ b) (f : Fi) : cnt1 l a f ≤ cnt1 l b f := by
  unfold cnt1
  split
  · next t _ =>
    unfold count
    by_cases h1 : timed t = true ∧ (f.tm : Int) < a
    · rw [if_pos h1, if_pos ⟨h1.1, by omega⟩]
      have := Tsk.since_mono (Tsk.timed_ok h1.1) h
      omega
    · rw [if_neg h1]
      split
      · next h2 =>
        have := Tsk.since_mono (Tsk.timed_ok h2.1) (show (f.tm : Int) ≤ b by omega)
        omega
      · omega
  · omega
theorem pend_mono (l : List Tk) {a b : Int} (h : a ≤ b) : ∀ L, pend l a L ≤ pend l b L
  | [] => Int.le_refl _
  | f :: r => by
    have h1 := cnt1_mono l h f
    have h2 := pend_mono l h r
    unfold pend
    omega
section
variable {B0 S : AH} {W : List Nat} {own E R : List Own} {ro : List Fct} {Q : Post} {k : AV → AC} {w : Nat} {x : Wl} {blk : List Own}
theorem wp_bslice0 (H : Cx B0 W S own ro) {es : Nat} {z : List AV} (hz : z.length = es) (h : ∀ v S1, Cx B0 W S1 (.sl v es [] :: own) ro → wp EM (k v) S1 Q) : wp EM (.op (.bslice es 0 z []) k) S Q := by
  refine wp_op (v := .sl S.next 0 0 0) (S1 := S.new (.row [])) ?_ (h _ _ (H.addOwn (Grows.new S _) (x := .sl (.sl S.next 0 0 0) es []) ?_ ?_))
  · show nBslice es 0 z [] S = _
    unfold nBslice
    have e : (Nat.beq (lenL ([] : List AV)) (Nat.mul 0 es) && Nat.beq (lenL z) es) = true := by
      rw [lenL_eq, lenL_eq, hz, Nat.beq_refl, show Nat.mul 0 es = 0 from Nat.zero_mul es]; rfl
    show (match Nat.beq (lenL ([] : List AV)) (Nat.mul 0 es) && Nat.beq (lenL z) es with | true => lay S (.row []) fun id => .sl id 0 0 0 | false => none) = _
    rw [e]; rfl
  · exact .inr ⟨S.next, 0, [], .inl ⟨0, by simp, by simp, rfl⟩, get_new_same _ _, by simp, by simp⟩
  · intro id hid
    simp only [Own.ids, vids, List.mem_singleton] at hid
    subst hid
    exact ⟨Nat.le_refl _, by simp [AH.new]⟩
theorem wp_Run {v : AV} {l : List Tk} {to : Nat} {M D : List Fi} (hv : Fct.sl v 4 (tks l) ∈ ro) (hc : tchk l = 0) (hm : mayE x to = 0) (hr : runM l to 4097 x.L = some (M, D)) (h : WRep w x blk) (H : Cx B0 W S (E ++ (blk ++ R)) ro)
    (hk : ∀ S u blk', WRep w ⟨to, M⟩ blk' → Cx B0 W S (.sl u 2 (fis D) :: (E ++ (blk' ++ R))) ro → wp EM (k (.tup [u, I 0])) S Q) : wp EM (.call (.fn (.func 25) [] []) [.ptr w 0, v, I (to : Int)] k) S Q := by
  have hor : orI [tchk l, mayE x to] = 0 := by rw [hc, hm]; rfl
  have hrn : runN l to 4097 x [] = some (⟨x.now, M⟩, D) := by rw [runN_runM, hr]; rfl
  refine wp_call (wpC_mono (run_ok (l := l) (to := (to : Int)) hv h H) fun r S4 ⟨u, blk', hr', h', H'⟩ => ?_)
  subst hr'
  have hE : runE x l to = 0 := by unfold runE; rw [if_neg (by rw [hor]; simp), hrn]
  have hX : runX x l to = ⟨to, M⟩ := by unfold runX; rw [if_neg (by rw [hor]; simp), hrn]; rfl
  have hL : runL x l to = D := by unfold runL; rw [if_neg (by rw [hor]; simp), hrn]
  rw [hE]
  rw [hX] at h'
  rw [hL] at H'
  exact hk _ u blk' h' H'
theorem wheelTasks_ok {S : AH} {v : AV} {l : List Tk} {now bt en : Int} (hv : RoSl S v 4 (tks l)) : wpC EM (.fn (.func 8) [] []) [v, I now, I bt, I en] S fun r _ => r = B true := by
  refine wpC_fn (b := Try.a8) rfl rfl ?_
  have H := Cx.ro1 hv
  unfold Try.a8
  refine wp_call (wpC_mono (known_ok H) fun r S1 ⟨hr, H⟩ => ?_)
  subst hr
  refine wp_len H (by repeat (first | exact List.Mem.head _ | apply List.Mem.tail)) ?_
  rw [Tsk.tks_len]
  refine wp_gtr (fun hbig => ?_) (fun hsm => ?_)
  · repeat (first|refine zA ?_|refine zB rfl ?_|refine zC ?_|refine zD ?_|refine zE rfl ?_|refine zF ?_|refine zG ?_|refine zH ?_|refine zI ?_|refine zJ ?_|refine zK ?_|refine zL rfl ?_|refine zN rfl ?_)
    exact wp_ret ⟨rfl, rfl⟩
  repeat (first|refine zA ?_|refine zB rfl ?_|refine zC ?_|refine zD ?_|refine zE rfl ?_|refine zF ?_|refine zG ?_|refine zH ?_|refine zI ?_|refine zJ ?_|refine zK ?_|refine zL rfl ?_|refine zN rfl ?_)
  refine wp_Pick H (by omega) fun S2 H => ?_
  have hp := pick_bd (a := now) (n := 549755813888) (by omega)
  generalize pick now 549755813888 = n0 at hp
  obtain ⟨n0, rfl⟩ : ∃ q : Nat, n0 = (q : Int) := ⟨n0.toNat, by omega⟩
  try unfold Try.a8x33
  refine wp_call (wpC_mono (near_ok H (now := n0) (by omega)) fun r S3 ⟨⟨b, hr, hb1, hb2⟩, H⟩ => ?_)
  subst hr
  refine wp_call (wpC_mono (near_ok H (now := b) hb2) fun r S3 ⟨⟨e, hr, he1, he2⟩, H⟩ => ?_)
  subst hr
  refine wp_call (wpC_mono (new_ok H) fun r S3 q => ?_)
  rcases q with ⟨_, wx, blkx, rfl, hx, H⟩ | ⟨hn, _⟩
  rotate_left
  · exact absurd ⟨by omega, by omega⟩ hn
  have hx : WRep wx ⟨n0, []⟩ blkx := hx
  repeat (first|refine zA ?_|refine zB rfl ?_|refine zC ?_|refine zD ?_|refine zE rfl ?_|refine zF ?_|refine zG ?_|refine zH ?_|refine zI ?_|refine zJ ?_|refine zK ?_|refine zL rfl ?_|refine zN rfl ?_)
  refine wp_call (wpC_mono (new_ok H) fun r S3 q => ?_)
  rcases q with ⟨_, wy, blky, rfl, hy, H⟩ | ⟨hn, _⟩
  rotate_left
  · exact absurd ⟨by omega, by omega⟩ hn
  have hy : WRep wy ⟨n0, []⟩ blky := hy
  try unfold Try.a8x32
  repeat (first|refine zA ?_|refine zB rfl ?_|refine zC ?_|refine zD ?_|refine zE rfl ?_|refine zF ?_|refine zG ?_|refine zH ?_|refine zI ?_|refine zJ ?_|refine zK ?_|refine zL rfl ?_|refine zN rfl ?_)
  refine wp_neq_f rfl ?_
  repeat (first|refine zA ?_|refine zB rfl ?_|refine zC ?_|refine zD ?_|refine zE rfl ?_|refine zF ?_|refine zG ?_|refine zH ?_|refine zI ?_|refine zJ ?_|refine zK ?_|refine zL rfl ?_|refine zN rfl ?_)
  refine wp_neq_f rfl ?_
  try unfold Try.a8x31
  repeat (first|refine zA ?_|refine zB rfl ?_|refine zC ?_|refine zD ?_|refine zE rfl ?_|refine zF ?_|refine zG ?_|refine zH ?_|refine zI ?_|refine zJ ?_|refine zK ?_|refine zL rfl ?_|refine zN rfl ?_)
  refine wp_ptrNil typW ?_
  repeat (first|refine zA ?_|refine zB rfl ?_|refine zC ?_|refine zD ?_|refine zE rfl ?_|refine zF ?_|refine zG ?_|refine zH ?_|refine zI ?_|refine zJ ?_|refine zK ?_|refine zL rfl ?_|refine zN rfl ?_)
  refine wp_ptrNil typW ?_
  repeat (first|refine zA ?_|refine zB rfl ?_|refine zC ?_|refine zD ?_|refine zE rfl ?_|refine zF ?_|refine zG ?_|refine zH ?_|refine zI ?_|refine zJ ?_|refine zK ?_|refine zL rfl ?_|refine zN rfl ?_)
  try unfold Try.a8x30
  repeat (first|refine zA ?_|refine zB rfl ?_|refine zC ?_|refine zD ?_|refine zE rfl ?_|refine zF ?_|refine zG ?_|refine zH ?_|refine zI ?_|refine zJ ?_|refine zK ?_|refine zL rfl ?_|refine zN rfl ?_)
  refine wp_callV H (Tsk.check_ok (l := l) (H.roSl (by repeat (first | exact List.Mem.head _ | apply List.Mem.tail)))) fun S5 H => ?_
  refine wp_neq (fun hne => ?_) (fun hz => ?_)
  · repeat (first|refine zA ?_|refine zB rfl ?_|refine zC ?_|refine zD ?_|refine zE rfl ?_|refine zF ?_|refine zG ?_|refine zH ?_|refine zI ?_|refine zJ ?_|refine zK ?_|refine zL rfl ?_|refine zN rfl ?_)
    try unfold Try.a8x1
    repeat (first|refine zA ?_|refine zB rfl ?_|refine zC ?_|refine zD ?_|refine zE rfl ?_|refine zF ?_|refine zG ?_|refine zH ?_|refine zI ?_|refine zJ ?_|refine zK ?_|refine zL rfl ?_|refine zN rfl ?_)
    refine wp_call (wpC_mono (load_ok (E := blky) (R := []) (l := l) (by repeat (first | exact List.Mem.head _ | apply List.Mem.tail)) hx H) fun r S4 ⟨hr, blkx, hx, H⟩ => ?_)
    subst hr
    unfold loadX at hx
    rw [if_neg hne] at hx
    repeat (first|refine zA ?_|refine zB rfl ?_|refine zC ?_|refine zD ?_|refine zE rfl ?_|refine zF ?_|refine zG ?_|refine zH ?_|refine zI ?_|refine zJ ?_|refine zK ?_|refine zL rfl ?_|refine zN rfl ?_)
    refine wp_eql_t rfl ?_
    try unfold Try.a8x0
    repeat (first|refine zA ?_|refine zB rfl ?_|refine zC ?_|refine zD ?_|refine zE rfl ?_|refine zF ?_|refine zG ?_|refine zH ?_|refine zI ?_|refine zJ ?_|refine zK ?_|refine zL rfl ?_|refine zN rfl ?_)
    refine wp_call (wpC_mono (list_ok (E := blky) (R := []) hx H) fun u S4 H => ?_)
    repeat (first|refine zA ?_|refine zB rfl ?_|refine zC ?_|refine zD ?_|refine zE rfl ?_|refine zF ?_|refine zG ?_|refine zH ?_|refine zI ?_|refine zJ ?_|refine zK ?_|refine zL rfl ?_|refine zN rfl ?_)
    refine wp_leno H 0 rfl ?_
    repeat (first|refine zA ?_|refine zB rfl ?_|refine zC ?_|refine zD ?_|refine zE rfl ?_|refine zF ?_|refine zG ?_|refine zH ?_|refine zI ?_|refine zJ ?_|refine zK ?_|refine zL rfl ?_|refine zN rfl ?_)
    refine wp_eql_t rfl ?_
    repeat (first|refine zA ?_|refine zB rfl ?_|refine zC ?_|refine zD ?_|refine zE rfl ?_|refine zF ?_|refine zG ?_|refine zH ?_|refine zI ?_|refine zJ ?_|refine zK ?_|refine zL rfl ?_|refine zN rfl ?_)
    exact wp_ret ⟨rfl, rfl⟩
  have hlen := Tsk.tchk_len hz
  repeat (first|refine zA ?_|refine zB rfl ?_|refine zC ?_|refine zD ?_|refine zE rfl ?_|refine zF ?_|refine zG ?_|refine zH ?_|refine zI ?_|refine zJ ?_|refine zK ?_|refine zL rfl ?_|refine zN rfl ?_)
  try unfold Try.a8x29
  refine wp_add64 (by omega) (by omega) ?_
  refine wp_callV H (Tsk.all_ok (l := l) (a := (n0 : Int)) (b := (e : Int) + 1) (H.roSl (by repeat (first | exact List.Mem.head _ | apply List.Mem.tail)))) fun S6 H => ?_
  have hall : Tsk.all l n0 ((e : Int) + 1) = allN l n0 ((e : Int) + 1) l.length := by unfold Tsk.all; rw [if_pos hz]
  refine wp_gtr (fun hbig2 => ?_) (fun hsm2 => ?_)
  · repeat (first|refine zA ?_|refine zB rfl ?_|refine zC ?_|refine zD ?_|refine zE rfl ?_|refine zF ?_|refine zG ?_|refine zH ?_|refine zI ?_|refine zJ ?_|refine zK ?_|refine zL rfl ?_|refine zN rfl ?_)
    exact wp_ret ⟨rfl, rfl⟩
  rw [hall] at hsm2
  repeat (first|refine zA ?_|refine zB rfl ?_|refine zC ?_|refine zD ?_|refine zE rfl ?_|refine zF ?_|refine zG ?_|refine zH ?_|refine zI ?_|refine zJ ?_|refine zK ?_|refine zL rfl ?_|refine zN rfl ?_)
  have hld : loadX ⟨n0, []⟩ l = loadN ⟨n0, []⟩ l l.length := by unfold loadX; rw [if_pos hz]
  obtain ⟨k1, k2, k3, k4⟩ := load_spec (now := n0) (by omega) (l := l) hlen l.length (Nat.le_refl _)
  have k5 : (loadN ⟨n0, []⟩ l l.length).now = n0 := loadN_now _ _ _
  refine wp_call (wpC_mono (load_ok (E := blky) (R := []) (l := l) (by repeat (first | exact List.Mem.head _ | apply List.Mem.tail)) hx H) fun r S4 ⟨hr, blkx, hx, H⟩ => ?_)
  subst hr
  rw [hld] at hx
  rw [hz]
  try unfold Try.a8x28
  refine wp_neq_f rfl ?_
  repeat (first|refine zA ?_|refine zB rfl ?_|refine zC ?_|refine zD ?_|refine zE rfl ?_|refine zF ?_|refine zG ?_|refine zH ?_|refine zI ?_|refine zJ ?_|refine zK ?_|refine zL rfl ?_|refine zN rfl ?_)
  refine wp_call (wpC_mono (load_ok (E := []) (R := blkx ++ []) (l := l) (by repeat (first | exact List.Mem.head _ | apply List.Mem.tail)) hy H) fun r S4 ⟨hr, blky, hy, H⟩ => ?_)
  subst hr
  rw [hld] at hy
  rw [hz]
  generalize hx0 : loadN ⟨n0, []⟩ l l.length = x0 at *
  repeat (first|refine zA ?_|refine zB rfl ?_|refine zC ?_|refine zD ?_|refine zE rfl ?_|refine zF ?_|refine zG ?_|refine zH ?_|refine zI ?_|refine zJ ?_|refine zK ?_|refine zL rfl ?_|refine zN rfl ?_)
  refine wp_neq_f rfl ?_
  repeat (first|refine zA ?_|refine zB rfl ?_|refine zC ?_|refine zD ?_|refine zE rfl ?_|refine zF ?_|refine zG ?_|refine zH ?_|refine zI ?_|refine zJ ?_|refine zK ?_|refine zL rfl ?_|refine zN rfl ?_)
  try unfold Try.a8x27
  repeat (first|refine zA ?_|refine zB rfl ?_|refine zC ?_|refine zD ?_|refine zE rfl ?_|refine zF ?_|refine zG ?_|refine zH ?_|refine zI ?_|refine zJ ?_|refine zK ?_|refine zL rfl ?_|refine zN rfl ?_)
  -- what the runs tell
  have p1 : pend l ((e : Int) + 1) x0.L ≤ 500 := by rw [k4]; exact hsm2
  obtain ⟨M, A, r1, r2, r3, r4, r5, r6, r7, r8, r9⟩ := runM_spec (to := (e : Int)) (by omega) 4097 x0 k1 k2 (by omega)
  have p2 := pend_mono l (show (b : Int) + 1 ≤ (e : Int) + 1 by omega) x0.L
  obtain ⟨M1, D1, s1, s2, s3, s4, s5, s6, s7, s8, s9⟩ := runM_spec (to := (b : Int)) (by omega) 4097 x0 k1 k2 (by omega)
  have p3 := s9 ((e : Int) + 1) (by omega)
  obtain ⟨M2, D2, t1, t2, t3, t4, t5, t6, t7, t8, t9⟩ := runM_spec (to := (e : Int)) (by omega) 4097 ⟨x0.now, M1⟩ s2 s3 (by show pend l ((e : Int) + 1) M1 < _; omega)
  have hcomp := runM_comp (show (b : Int) ≤ e by omega) s1 t1
  have hmore := runM_more (show 4097 ≤ 4097 + 4097 by omega) r1
  rw [hcomp] at hmore
  have hmore : (M2, D1 ++ D2) = (M, A) := Option.some.inj hmore
  obtain ⟨rfl, rfl⟩ : M2 = M ∧ D1 ++ D2 = A := ⟨congrArg (·.1) hmore, congrArg (·.2) hmore⟩
  have hm1 : mayE x0 (e : Int) = 0 := by unfold mayE; rw [if_pos (by omega), if_neg (by rw [k5]; omega)]
  have hm2 : mayE x0 (b : Int) = 0 := by unfold mayE; rw [if_pos (by omega), if_neg (by rw [k5]; omega)]
  have hm3 : mayE ⟨b, M1⟩ (e : Int) = 0 := by unfold mayE; rw [if_pos (by omega), if_neg (by show ¬ (e : Int) < (b : Int); omega)]
  refine wp_Run (E := blky) (R := []) (to := e) (by repeat (first | exact List.Mem.head _ | apply List.Mem.tail)) hz hm1 r1 hx H fun S7 ua blkx hx H => ?_
  repeat (first|refine zA ?_|refine zB rfl ?_|refine zC ?_|refine zD ?_|refine zE rfl ?_|refine zF ?_|refine zG ?_|refine zH ?_|refine zI ?_|refine zJ ?_|refine zK ?_|refine zL rfl ?_|refine zN rfl ?_)
  refine wp_Run (E := [.sl ua 2 (fis (D1 ++ D2))]) (R := blkx ++ []) (to := b) (by repeat (first | exact List.Mem.head _ | apply List.Mem.tail)) hz hm2 s1 hy H fun S8 ub blky hy H => ?_
  try unfold Try.a8x26
  repeat (first|refine zA ?_|refine zB rfl ?_|refine zC ?_|refine zD ?_|refine zE rfl ?_|refine zF ?_|refine zG ?_|refine zH ?_|refine zI ?_|refine zJ ?_|refine zK ?_|refine zL rfl ?_|refine zN rfl ?_)
  refine wp_Run (E := [.sl ub 2 (fis D1), .sl ua 2 (fis (D1 ++ D2))]) (R := blkx ++ []) (to := e) (by repeat (first | exact List.Mem.head _ | apply List.Mem.tail)) hz hm3 t1 hy H fun S9 uc blky hy H => ?_
  repeat (first|refine zA ?_|refine zB rfl ?_|refine zC ?_|refine zD ?_|refine zE rfl ?_|refine zF ?_|refine zG ?_|refine zH ?_|refine zI ?_|refine zJ ?_|refine zK ?_|refine zL rfl ?_|refine zN rfl ?_)
  refine wp_neq_f rfl ?_
  try unfold Try.a8x25
  repeat (first|refine zA ?_|refine zB rfl ?_|refine zC ?_|refine zD ?_|refine zE rfl ?_|refine zF ?_|refine zG ?_|refine zH ?_|refine zI ?_|refine zJ ?_|refine zK ?_|refine zL rfl ?_|refine zN rfl ?_)
  refine wp_neq_f rfl ?_
  repeat (first|refine zA ?_|refine zB rfl ?_|refine zC ?_|refine zD ?_|refine zE rfl ?_|refine zF ?_|refine zG ?_|refine zH ?_|refine zI ?_|refine zJ ?_|refine zK ?_|refine zL rfl ?_|refine zN rfl ?_)
  refine wp_neq_f rfl ?_
  repeat (first|refine zA ?_|refine zB rfl ?_|refine zC ?_|refine zD ?_|refine zE rfl ?_|refine zF ?_|refine zG ?_|refine zH ?_|refine zI ?_|refine zJ ?_|refine zK ?_|refine zL rfl ?_|refine zN rfl ?_)
  try unfold Try.a8x24
  repeat (first|refine zA ?_|refine zB rfl ?_|refine zC ?_|refine zD ?_|refine zE rfl ?_|refine zF ?_|refine zG ?_|refine zH ?_|refine zI ?_|refine zJ ?_|refine zK ?_|refine zL rfl ?_|refine zN rfl ?_)
  have hAl : ((D1 ++ D2).length : Int) ≤ 500 := by omega
  have hD1 : D1.length ≤ 500 := by simp at hAl; omega
  have hD2 : D2.length ≤ 500 := by simp at hAl; omega
  refine wp_bslice0 H rfl fun ud S10 H => ?_
  repeat (first|refine zA ?_|refine zB rfl ?_|refine zC ?_|refine zD ?_|refine zE rfl ?_|refine zF ?_|refine zG ?_|refine zH ?_|refine zI ?_|refine zJ ?_|refine zK ?_|refine zL rfl ?_|refine zN rfl ?_)
  refine wp_append (N := fis D1) H 0 rfl (slOk_elems (ownSl_ok (H.oh _ (List.Mem.tail _ (List.Mem.tail _ (List.Mem.head _)))))) (fis_all D1) (by rw [fis_len]; unfold maxBytes; simp; omega) (by rw [fis_len]; unfold maxLenN; simp; omega) fun ud S11 H => ?_
  have H : Cx S [] S11 (.sl ud 2 (fis D1) :: .sl uc 2 (fis D2) :: .sl ub 2 (fis D1) :: .sl ua 2 (fis (D1 ++ D2)) :: (blky ++ (blkx ++ []))) [.sl v 4 (tks l)] := H
  repeat (first|refine zA ?_|refine zB rfl ?_|refine zC ?_|refine zD ?_|refine zE rfl ?_|refine zF ?_|refine zG ?_|refine zH ?_|refine zI ?_|refine zJ ?_|refine zK ?_|refine zL rfl ?_|refine zN rfl ?_)
  refine wp_append (N := fis D2) H 0 rfl (slOk_elems (ownSl_ok (H.oh _ (List.Mem.tail _ (List.Mem.head _))))) (fis_all D2) (by rw [fis_len, fis_len]; unfold maxBytes; omega) (by rw [fis_len, fis_len]; unfold maxLenN; omega) fun ud S12 H => ?_
  have H : Cx S [] S12 (.sl ud 2 (fis D1 ++ fis D2) :: .sl uc 2 (fis D2) :: .sl ub 2 (fis D1) :: .sl ua 2 (fis (D1 ++ D2)) :: (blky ++ (blkx ++ []))) [.sl v 4 (tks l)] := H
  rw [← fis_app] at H
  try unfold Try.a8x23
  repeat (first|refine zA ?_|refine zB rfl ?_|refine zC ?_|refine zD ?_|refine zE rfl ?_|refine zF ?_|refine zG ?_|refine zH ?_|refine zI ?_|refine zJ ?_|refine zK ?_|refine zL rfl ?_|refine zN rfl ?_)
  refine wp_callV H (sameF_ok (L := D1 ++ D2) (H.ownSl (n := 3) rfl) (H.ownSl (n := 0) rfl) (by omega)) fun S13 H => ?_
  repeat (first|refine zA ?_|refine zB rfl ?_|refine zC ?_|refine zD ?_|refine zE rfl ?_|refine zF ?_|refine zG ?_|refine zH ?_|refine zI ?_|refine zJ ?_|refine zK ?_|refine zL rfl ?_|refine zN rfl ?_)
  refine wp_op (v := B false) rfl ?_
  repeat (first|refine zA ?_|refine zB rfl ?_|refine zC ?_|refine zD ?_|refine zE rfl ?_|refine zF ?_|refine zG ?_|refine zH ?_|refine zI ?_|refine zJ ?_|refine zK ?_|refine zL rfl ?_|refine zN rfl ?_)
  refine wp_call (wpC_mono (list_ok (E := .sl ud 2 (fis (D1 ++ D2)) :: .sl uc 2 (fis D2) :: .sl ub 2 (fis D1) :: .sl ua 2 (fis (D1 ++ D2)) :: blky) (R := []) hx H) fun lx S14 H => ?_)
  repeat (first|refine zA ?_|refine zB rfl ?_|refine zC ?_|refine zD ?_|refine zE rfl ?_|refine zF ?_|refine zG ?_|refine zH ?_|refine zI ?_|refine zJ ?_|refine zK ?_|refine zL rfl ?_|refine zN rfl ?_)
  try unfold Try.a8x22
  refine wp_call (wpC_mono (list_ok (E := [.sl lx 2 (fis M2), .sl ud 2 (fis (D1 ++ D2)), .sl uc 2 (fis D2), .sl ub 2 (fis D1), .sl ua 2 (fis (D1 ++ D2))]) (R := blkx ++ []) hy H) fun ly S15 H => ?_)
  have hM2 : M2.length ≤ 256 := hx.ok.len
  repeat (first|refine zA ?_|refine zB rfl ?_|refine zC ?_|refine zD ?_|refine zE rfl ?_|refine zF ?_|refine zG ?_|refine zH ?_|refine zI ?_|refine zJ ?_|refine zK ?_|refine zL rfl ?_|refine zN rfl ?_)
  refine wp_callV H (sameF_ok (L := M2) (H.ownSl (n := 1) rfl) (H.ownSl (n := 0) rfl) (by omega)) fun S16 H => ?_
  repeat (first|refine zA ?_|refine zB rfl ?_|refine zC ?_|refine zD ?_|refine zE rfl ?_|refine zF ?_|refine zG ?_|refine zH ?_|refine zI ?_|refine zJ ?_|refine zK ?_|refine zL rfl ?_|refine zN rfl ?_)
  refine wp_op (v := B false) rfl ?_
  repeat (first|refine zA ?_|refine zB rfl ?_|refine zC ?_|refine zD ?_|refine zE rfl ?_|refine zF ?_|refine zG ?_|refine zH ?_|refine zI ?_|refine zJ ?_|refine zK ?_|refine zL rfl ?_|refine zN rfl ?_)
  refine wp_leno (L := fis (D1 ++ D2)) H 5 rfl ?_
  rw [fis_len]
  try unfold Try.a8x21
  repeat (first|refine zA ?_|refine zB rfl ?_|refine zC ?_|refine zD ?_|refine zE rfl ?_|refine zF ?_|refine zG ?_|refine zH ?_|refine zI ?_|refine zJ ?_|refine zK ?_|refine zL rfl ?_|refine zN rfl ?_)
  refine wp_add64 (by omega) (by omega) ?_
  repeat (first|refine zA ?_|refine zB rfl ?_|refine zC ?_|refine zD ?_|refine zE rfl ?_|refine zF ?_|refine zG ?_|refine zH ?_|refine zI ?_|refine zJ ?_|refine zK ?_|refine zL rfl ?_|refine zN rfl ?_)
  refine wp_callV H (Tsk.all_ok (l := l) (a := (n0 : Int)) (b := (e : Int) + 1) (H.roSl (by repeat (first | exact List.Mem.head _ | apply List.Mem.tail)))) fun S17 H => ?_
  repeat (first|refine zA ?_|refine zB rfl ?_|refine zC ?_|refine zD ?_|refine zE rfl ?_|refine zF ?_|refine zG ?_|refine zH ?_|refine zI ?_|refine zJ ?_|refine zK ?_|refine zL rfl ?_|refine zN rfl ?_)
  rw [hall, ← k4]
  refine wp_neq_f r5 ?_
  try unfold Try.a8x20
  repeat (first|refine zA ?_|refine zB rfl ?_|refine zC ?_|refine zD ?_|refine zE rfl ?_|refine zF ?_|refine zG ?_|refine zH ?_|refine zI ?_|refine zJ ?_|refine zK ?_|refine zL rfl ?_|refine zN rfl ?_)
  generalize hA : D1 ++ D2 = A at *
  let own1 : List Own := .sl ly 2 (fis M2) :: .sl lx 2 (fis M2) :: .sl ud 2 (fis A) :: .sl uc 2 (fis D2) :: .sl ub 2 (fis D1) :: .sl ua 2 (fis A) :: (blky ++ (blkx ++ []))
  have H : Cx S [] S17 own1 [.sl v 4 (tks l)] := H
  have hua : own1[5]? = some (.sl ua 2 (fis A)) := rfl
  refine wp_bind ?_
  try unfold Try.a8x19
  refine wp_loop (wpL_inv (fun m vs S1 => ∃ (i : Nat), vs = [I (i : Int), B false] ∧ i ≤ A.length ∧ m = A.length - i ∧ Cx S [] S1 own1 [.sl v 4 (tks l)]) ?_ A.length ⟨0, rfl, by omega, by omega, H⟩)
  clear H
  rintro m vs S18 ⟨i, rfl, hi, rfl, H⟩
  refine wp_leno H 5 hua ?_
  rw [fis_len]
  refine wp_lss (fun hlt => ?_) (fun hge => ?_)
  · have hlt : i < A.length := by omega
    obtain ⟨⟨t, ht, hT⟩, hge2, hle2⟩ := r6 _ (List.getElem_mem hlt)
    rw [k5] at hge2
    have hidl : A[i].id < l.length := (List.getElem?_eq_some_iff.1 ht).1
    have htl : l[A[i].id] = t := (List.getElem?_eq_some_iff.1 ht).2
    have body : wp EM (.op (.saddr 2 ua (I (i : Int))) fun v79 => .op (.faddr 0 v79) fun v80 => .op (.load 1 false v80) fun v81 => (Try.a8x17 [v, I now, I bt, I en] (I (n0 : Int)) (I (e : Int)) ua [I (i : Int), B false] v81)) S18
        fun t vs S' => t = .normal ∧ vs = [B false] ∧ Cx S [] S' own1 [.sl v 4 (tks l)] := by
      refine wp_saddro (i := i) H 5 hua (fis_get hlt) fun q1 o1 h1 => ?_
      repeat (first|refine zA ?_|refine zB rfl ?_|refine zC ?_|refine zD ?_|refine zE rfl ?_|refine zF ?_|refine zG ?_|refine zH ?_|refine zI ?_|refine zJ ?_|refine zK ?_|refine zL rfl ?_|refine zN rfl ?_)
      refine wp_loadF (j := 0) (cs := A[i].cs) h1 rfl ?_
      try unfold Try.a8x17
      refine wp_lss_f (by omega) ?_
      repeat (first|refine zA ?_|refine zB rfl ?_|refine zC ?_|refine zD ?_|refine zE rfl ?_|refine zF ?_|refine zG ?_|refine zH ?_|refine zI ?_|refine zJ ?_|refine zK ?_|refine zL rfl ?_|refine zN rfl ?_)
      refine wp_saddro (i := i) H 5 hua (fis_get hlt) fun q1 o1 h1 => ?_
      repeat (first|refine zA ?_|refine zB rfl ?_|refine zC ?_|refine zD ?_|refine zE rfl ?_|refine zF ?_|refine zG ?_|refine zH ?_|refine zI ?_|refine zJ ?_|refine zK ?_|refine zL rfl ?_|refine zN rfl ?_)
      refine wp_loadF (j := 0) (cs := A[i].cs) h1 rfl ?_
      try unfold Try.a8x16
      repeat (first|refine zA ?_|refine zB rfl ?_|refine zC ?_|refine zD ?_|refine zE rfl ?_|refine zF ?_|refine zG ?_|refine zH ?_|refine zI ?_|refine zJ ?_|refine zK ?_|refine zL rfl ?_|refine zN rfl ?_)
      refine wp_len H (by repeat (first | exact List.Mem.head _ | apply List.Mem.tail)) ?_
      rw [Tsk.tks_len]
      repeat (first|refine zA ?_|refine zB rfl ?_|refine zC ?_|refine zD ?_|refine zE rfl ?_|refine zF ?_|refine zG ?_|refine zH ?_|refine zI ?_|refine zJ ?_|refine zK ?_|refine zL rfl ?_|refine zN rfl ?_)
      refine wp_geq_f (by omega) ?_
      repeat (first|refine zA ?_|refine zB rfl ?_|refine zC ?_|refine zD ?_|refine zE rfl ?_|refine zF ?_|refine zG ?_|refine zH ?_|refine zI ?_|refine zJ ?_|refine zK ?_|refine zL rfl ?_|refine zN rfl ?_)
      try unfold Try.a8x15
      repeat (first|refine zA ?_|refine zB rfl ?_|refine zC ?_|refine zD ?_|refine zE rfl ?_|refine zF ?_|refine zG ?_|refine zH ?_|refine zI ?_|refine zJ ?_|refine zK ?_|refine zL rfl ?_|refine zN rfl ?_)
      refine wp_saddro (i := i) H 5 hua (fis_get hlt) fun q1 o1 h1 => ?_
      repeat (first|refine zA ?_|refine zB rfl ?_|refine zC ?_|refine zD ?_|refine zE rfl ?_|refine zF ?_|refine zG ?_|refine zH ?_|refine zI ?_|refine zJ ?_|refine zK ?_|refine zL rfl ?_|refine zN rfl ?_)
      refine wp_loadF (j := 1) (cs := A[i].cs) h1 rfl ?_
      repeat (first|refine zA ?_|refine zB rfl ?_|refine zC ?_|refine zD ?_|refine zE rfl ?_|refine zF ?_|refine zG ?_|refine zH ?_|refine zI ?_|refine zJ ?_|refine zK ?_|refine zL rfl ?_|refine zN rfl ?_)
      refine wp_lss_f (by omega) ?_
      try unfold Try.a8x14
      repeat (first|refine zA ?_|refine zB rfl ?_|refine zC ?_|refine zD ?_|refine zE rfl ?_|refine zF ?_|refine zG ?_|refine zH ?_|refine zI ?_|refine zJ ?_|refine zK ?_|refine zL rfl ?_|refine zN rfl ?_)
      refine wp_saddro (i := i) H 5 hua (fis_get hlt) fun q1 o1 h1 => ?_
      repeat (first|refine zA ?_|refine zB rfl ?_|refine zC ?_|refine zD ?_|refine zE rfl ?_|refine zF ?_|refine zG ?_|refine zH ?_|refine zI ?_|refine zJ ?_|refine zK ?_|refine zL rfl ?_|refine zN rfl ?_)
      refine wp_loadF (j := 1) (cs := A[i].cs) h1 rfl ?_
      repeat (first|refine zA ?_|refine zB rfl ?_|refine zC ?_|refine zD ?_|refine zE rfl ?_|refine zF ?_|refine zG ?_|refine zH ?_|refine zI ?_|refine zJ ?_|refine zK ?_|refine zL rfl ?_|refine zN rfl ?_)
      try unfold Try.a8x13
      refine wp_gtr_f (by omega) ?_
      repeat (first|refine zA ?_|refine zB rfl ?_|refine zC ?_|refine zD ?_|refine zE rfl ?_|refine zF ?_|refine zG ?_|refine zH ?_|refine zI ?_|refine zJ ?_|refine zK ?_|refine zL rfl ?_|refine zN rfl ?_)
      refine wp_saddro (i := i) H 5 hua (fis_get hlt) fun q1 o1 h1 => ?_
      try unfold Try.a8x12
      repeat (first|refine zA ?_|refine zB rfl ?_|refine zC ?_|refine zD ?_|refine zE rfl ?_|refine zF ?_|refine zG ?_|refine zH ?_|refine zI ?_|refine zJ ?_|refine zK ?_|refine zL rfl ?_|refine zN rfl ?_)
      refine wp_loadF (j := 0) (cs := A[i].cs) h1 rfl ?_
      repeat (first|refine zA ?_|refine zB rfl ?_|refine zC ?_|refine zD ?_|refine zE rfl ?_|refine zF ?_|refine zG ?_|refine zH ?_|refine zI ?_|refine zJ ?_|refine zK ?_|refine zL rfl ?_|refine zN rfl ?_)
      refine wp_saddr (i := A[i].id) H (by repeat (first | exact List.Mem.head _ | apply List.Mem.tail)) (Tsk.tks_get hidl) fun q2 o2 H2 => ?_
      repeat (first|refine zA ?_|refine zB rfl ?_|refine zC ?_|refine zD ?_|refine zE rfl ?_|refine zF ?_|refine zG ?_|refine zH ?_|refine zI ?_|refine zJ ?_|refine zK ?_|refine zL rfl ?_|refine zN rfl ?_)
      refine wp_loada (n := 4) H2 (cs := l[A[i].id].cs) (by repeat (first | exact List.Mem.head _ | apply List.Mem.tail)) (Nat.le_refl _) ?_
      replace H2 := H2.tl
      repeat (first|refine zA ?_|refine zB rfl ?_|refine zC ?_|refine zD ?_|refine zE rfl ?_|refine zF ?_|refine zG ?_|refine zH ?_|refine zI ?_|refine zJ ?_|refine zK ?_|refine zL rfl ?_|refine zN rfl ?_)
      try unfold Try.a8x11
      repeat (first|refine zA ?_|refine zB rfl ?_|refine zC ?_|refine zD ?_|refine zE rfl ?_|refine zF ?_|refine zG ?_|refine zH ?_|refine zI ?_|refine zJ ?_|refine zK ?_|refine zL rfl ?_|refine zN rfl ?_)
      refine wp_saddro (i := i) H2 5 hua (fis_get hlt) fun q1 o1 h1 => ?_
      repeat (first|refine zA ?_|refine zB rfl ?_|refine zC ?_|refine zD ?_|refine zE rfl ?_|refine zF ?_|refine zG ?_|refine zH ?_|refine zI ?_|refine zJ ?_|refine zK ?_|refine zL rfl ?_|refine zN rfl ?_)
      refine wp_loadF (j := 1) (cs := A[i].cs) h1 rfl ?_
      repeat (first|refine zA ?_|refine zB rfl ?_|refine zC ?_|refine zD ?_|refine zE rfl ?_|refine zF ?_|refine zG ?_|refine zH ?_|refine zI ?_|refine zJ ?_|refine zK ?_|refine zL rfl ?_|refine zN rfl ?_)
      refine wp_saddro (i := i) H2 5 hua (fis_get hlt) fun q1 o1 h1 => ?_
      try unfold Try.a8x10
      repeat (first|refine zA ?_|refine zB rfl ?_|refine zC ?_|refine zD ?_|refine zE rfl ?_|refine zF ?_|refine zG ?_|refine zH ?_|refine zI ?_|refine zJ ?_|refine zK ?_|refine zL rfl ?_|refine zN rfl ?_)
      refine wp_loadF (j := 1) (cs := A[i].cs) h1 rfl ?_
      repeat (first|refine zA ?_|refine zB rfl ?_|refine zC ?_|refine zD ?_|refine zE rfl ?_|refine zF ?_|refine zG ?_|refine zH ?_|refine zI ?_|refine zJ ?_|refine zK ?_|refine zL rfl ?_|refine zN rfl ?_)
      refine wp_add64 (by omega) (by omega) ?_
      repeat (first|refine zA ?_|refine zB rfl ?_|refine zC ?_|refine zD ?_|refine zE rfl ?_|refine zF ?_|refine zG ?_|refine zH ?_|refine zI ?_|refine zJ ?_|refine zK ?_|refine zL rfl ?_|refine zN rfl ?_)
      refine wp_callV H2 (Tsk.count_ok (x := l[A[i].id]) (a := (A[i].tm : Int)) (b := (A[i].tm : Int) + 1)) fun S19 H => ?_
      rw [htl, isT_one hT]
      repeat (first|refine zA ?_|refine zB rfl ?_|refine zC ?_|refine zD ?_|refine zE rfl ?_|refine zF ?_|refine zG ?_|refine zH ?_|refine zI ?_|refine zJ ?_|refine zK ?_|refine zL rfl ?_|refine zN rfl ?_)
      refine wp_neq_f rfl ?_
      repeat (first|refine zA ?_|refine zB rfl ?_|refine zC ?_|refine zD ?_|refine zE rfl ?_|refine zF ?_|refine zG ?_|refine zH ?_|refine zI ?_|refine zJ ?_|refine zK ?_|refine zL rfl ?_|refine zN rfl ?_)
      try unfold Try.a8x9
      repeat (first|refine zA ?_|refine zB rfl ?_|refine zC ?_|refine zD ?_|refine zE rfl ?_|refine zF ?_|refine zG ?_|refine zH ?_|refine zI ?_|refine zJ ?_|refine zK ?_|refine zL rfl ?_|refine zN rfl ?_)
      refine wp_gtr (fun hpos => ?_) (fun h0 => ?_)
      · have hpm : i - 1 < A.length := by omega
        have hlt2 : (A[i - 1]).lt A[i] := ord_get r7 (by omega) hlt
        have e1 : ((i : Int) - 1) = ((i - 1 : Nat) : Int) := by omega
        repeat (first|refine zA ?_|refine zB rfl ?_|refine zC ?_|refine zD ?_|refine zE rfl ?_|refine zF ?_|refine zG ?_|refine zH ?_|refine zI ?_|refine zJ ?_|refine zK ?_|refine zL rfl ?_|refine zN rfl ?_)
        refine wp_sub (c := ((i - 1 : Nat) : Int)) (by rw [wrap64 (by omega) (by omega)]; exact e1) ?_
        try unfold Try.a8x8
        repeat (first|refine zA ?_|refine zB rfl ?_|refine zC ?_|refine zD ?_|refine zE rfl ?_|refine zF ?_|refine zG ?_|refine zH ?_|refine zI ?_|refine zJ ?_|refine zK ?_|refine zL rfl ?_|refine zN rfl ?_)
        refine wp_saddro (i := i - 1) H 5 hua (fis_get hpm) fun q1 o1 h1 => ?_
        repeat (first|refine zA ?_|refine zB rfl ?_|refine zC ?_|refine zD ?_|refine zE rfl ?_|refine zF ?_|refine zG ?_|refine zH ?_|refine zI ?_|refine zJ ?_|refine zK ?_|refine zL rfl ?_|refine zN rfl ?_)
        refine wp_loadF (j := 1) (cs := A[i - 1].cs) h1 rfl ?_
        repeat (first|refine zA ?_|refine zB rfl ?_|refine zC ?_|refine zD ?_|refine zE rfl ?_|refine zF ?_|refine zG ?_|refine zH ?_|refine zI ?_|refine zJ ?_|refine zK ?_|refine zL rfl ?_|refine zN rfl ?_)
        refine wp_saddro (i := i) H 5 hua (fis_get hlt) fun q1 o1 h1 => ?_
        try unfold Try.a8x7
        repeat (first|refine zA ?_|refine zB rfl ?_|refine zC ?_|refine zD ?_|refine zE rfl ?_|refine zF ?_|refine zG ?_|refine zH ?_|refine zI ?_|refine zJ ?_|refine zK ?_|refine zL rfl ?_|refine zN rfl ?_)
        refine wp_loadF (j := 1) (cs := A[i].cs) h1 rfl ?_
        repeat (first|refine zA ?_|refine zB rfl ?_|refine zC ?_|refine zD ?_|refine zE rfl ?_|refine zF ?_|refine zG ?_|refine zH ?_|refine zI ?_|refine zJ ?_|refine zK ?_|refine zL rfl ?_|refine zN rfl ?_)
        refine wp_gtr_f (by unfold Fi.lt at hlt2; omega) ?_
        repeat (first|refine zA ?_|refine zB rfl ?_|refine zC ?_|refine zD ?_|refine zE rfl ?_|refine zF ?_|refine zG ?_|refine zH ?_|refine zI ?_|refine zJ ?_|refine zK ?_|refine zL rfl ?_|refine zN rfl ?_)
        try unfold Try.a8x6
        repeat (first|refine zA ?_|refine zB rfl ?_|refine zC ?_|refine zD ?_|refine zE rfl ?_|refine zF ?_|refine zG ?_|refine zH ?_|refine zI ?_|refine zJ ?_|refine zK ?_|refine zL rfl ?_|refine zN rfl ?_)
        refine wp_sub (c := ((i - 1 : Nat) : Int)) (by rw [wrap64 (by omega) (by omega)]; exact e1) ?_
        repeat (first|refine zA ?_|refine zB rfl ?_|refine zC ?_|refine zD ?_|refine zE rfl ?_|refine zF ?_|refine zG ?_|refine zH ?_|refine zI ?_|refine zJ ?_|refine zK ?_|refine zL rfl ?_|refine zN rfl ?_)
        refine wp_saddro (i := i - 1) H 5 hua (fis_get hpm) fun q1 o1 h1 => ?_
        repeat (first|refine zA ?_|refine zB rfl ?_|refine zC ?_|refine zD ?_|refine zE rfl ?_|refine zF ?_|refine zG ?_|refine zH ?_|refine zI ?_|refine zJ ?_|refine zK ?_|refine zL rfl ?_|refine zN rfl ?_)
        refine wp_loadF (j := 1) (cs := A[i - 1].cs) h1 rfl ?_
        repeat (first|refine zA ?_|refine zB rfl ?_|refine zC ?_|refine zD ?_|refine zE rfl ?_|refine zF ?_|refine zG ?_|refine zH ?_|refine zI ?_|refine zJ ?_|refine zK ?_|refine zL rfl ?_|refine zN rfl ?_)
        try unfold Try.a8x5
        repeat (first|refine zA ?_|refine zB rfl ?_|refine zC ?_|refine zD ?_|refine zE rfl ?_|refine zF ?_|refine zG ?_|refine zH ?_|refine zI ?_|refine zJ ?_|refine zK ?_|refine zL rfl ?_|refine zN rfl ?_)
        refine wp_saddro (i := i) H 5 hua (fis_get hlt) fun q1 o1 h1 => ?_
        repeat (first|refine zA ?_|refine zB rfl ?_|refine zC ?_|refine zD ?_|refine zE rfl ?_|refine zF ?_|refine zG ?_|refine zH ?_|refine zI ?_|refine zJ ?_|refine zK ?_|refine zL rfl ?_|refine zN rfl ?_)
        refine wp_loadF (j := 1) (cs := A[i].cs) h1 rfl ?_
        repeat (first|refine zA ?_|refine zB rfl ?_|refine zC ?_|refine zD ?_|refine zE rfl ?_|refine zF ?_|refine zG ?_|refine zH ?_|refine zI ?_|refine zJ ?_|refine zK ?_|refine zL rfl ?_|refine zN rfl ?_)
        refine wp_eql (fun heq => ?_) (fun hneq => ?_)
        · repeat (first|refine zA ?_|refine zB rfl ?_|refine zC ?_|refine zD ?_|refine zE rfl ?_|refine zF ?_|refine zG ?_|refine zH ?_|refine zI ?_|refine zJ ?_|refine zK ?_|refine zL rfl ?_|refine zN rfl ?_)
          try unfold Try.a8x4
          repeat (first|refine zA ?_|refine zB rfl ?_|refine zC ?_|refine zD ?_|refine zE rfl ?_|refine zF ?_|refine zG ?_|refine zH ?_|refine zI ?_|refine zJ ?_|refine zK ?_|refine zL rfl ?_|refine zN rfl ?_)
          refine wp_sub (c := ((i - 1 : Nat) : Int)) (by rw [wrap64 (by omega) (by omega)]; exact e1) ?_
          repeat (first|refine zA ?_|refine zB rfl ?_|refine zC ?_|refine zD ?_|refine zE rfl ?_|refine zF ?_|refine zG ?_|refine zH ?_|refine zI ?_|refine zJ ?_|refine zK ?_|refine zL rfl ?_|refine zN rfl ?_)
          refine wp_saddro (i := i - 1) H 5 hua (fis_get hpm) fun q1 o1 h1 => ?_
          repeat (first|refine zA ?_|refine zB rfl ?_|refine zC ?_|refine zD ?_|refine zE rfl ?_|refine zF ?_|refine zG ?_|refine zH ?_|refine zI ?_|refine zJ ?_|refine zK ?_|refine zL rfl ?_|refine zN rfl ?_)
          refine wp_loadF (j := 0) (cs := A[i - 1].cs) h1 rfl ?_
          repeat (first|refine zA ?_|refine zB rfl ?_|refine zC ?_|refine zD ?_|refine zE rfl ?_|refine zF ?_|refine zG ?_|refine zH ?_|refine zI ?_|refine zJ ?_|refine zK ?_|refine zL rfl ?_|refine zN rfl ?_)
          try unfold Try.a8x3
          repeat (first|refine zA ?_|refine zB rfl ?_|refine zC ?_|refine zD ?_|refine zE rfl ?_|refine zF ?_|refine zG ?_|refine zH ?_|refine zI ?_|refine zJ ?_|refine zK ?_|refine zL rfl ?_|refine zN rfl ?_)
          refine wp_saddro (i := i) H 5 hua (fis_get hlt) fun q1 o1 h1 => ?_
          repeat (first|refine zA ?_|refine zB rfl ?_|refine zC ?_|refine zD ?_|refine zE rfl ?_|refine zF ?_|refine zG ?_|refine zH ?_|refine zI ?_|refine zJ ?_|refine zK ?_|refine zL rfl ?_|refine zN rfl ?_)
          refine wp_loadF (j := 0) (cs := A[i].cs) h1 rfl ?_
          repeat (first|refine zA ?_|refine zB rfl ?_|refine zC ?_|refine zD ?_|refine zE rfl ?_|refine zF ?_|refine zG ?_|refine zH ?_|refine zI ?_|refine zJ ?_|refine zK ?_|refine zL rfl ?_|refine zN rfl ?_)
          refine wp_geq_f (by unfold Fi.lt at hlt2; omega) ?_
          repeat (first|refine zA ?_|refine zB rfl ?_|refine zC ?_|refine zD ?_|refine zE rfl ?_|refine zF ?_|refine zG ?_|refine zH ?_|refine zI ?_|refine zJ ?_|refine zK ?_|refine zL rfl ?_|refine zN rfl ?_)
          try unfold Try.a8x2
          repeat (first|refine zA ?_|refine zB rfl ?_|refine zC ?_|refine zD ?_|refine zE rfl ?_|refine zF ?_|refine zG ?_|refine zH ?_|refine zI ?_|refine zJ ?_|refine zK ?_|refine zL rfl ?_|refine zN rfl ?_)
          exact wp_ret ⟨rfl, rfl, H⟩
        · repeat (first|refine zA ?_|refine zB rfl ?_|refine zC ?_|refine zD ?_|refine zE rfl ?_|refine zF ?_|refine zG ?_|refine zH ?_|refine zI ?_|refine zJ ?_|refine zK ?_|refine zL rfl ?_|refine zN rfl ?_)
          try unfold Try.a8x4 Try.a8x3
          repeat (first|refine zA ?_|refine zB rfl ?_|refine zC ?_|refine zD ?_|refine zE rfl ?_|refine zF ?_|refine zG ?_|refine zH ?_|refine zI ?_|refine zJ ?_|refine zK ?_|refine zL rfl ?_|refine zN rfl ?_)
          try unfold Try.a8x2
          repeat (first|refine zA ?_|refine zB rfl ?_|refine zC ?_|refine zD ?_|refine zE rfl ?_|refine zF ?_|refine zG ?_|refine zH ?_|refine zI ?_|refine zJ ?_|refine zK ?_|refine zL rfl ?_|refine zN rfl ?_)
          exact wp_ret ⟨rfl, rfl, H⟩
      · repeat (first|refine zA ?_|refine zB rfl ?_|refine zC ?_|refine zD ?_|refine zE rfl ?_|refine zF ?_|refine zG ?_|refine zH ?_|refine zI ?_|refine zJ ?_|refine zK ?_|refine zL rfl ?_|refine zN rfl ?_)
        try unfold Try.a8x8 Try.a8x7 Try.a8x6 Try.a8x5 Try.a8x4 Try.a8x3 Try.a8x2
        repeat (first|refine zA ?_|refine zB rfl ?_|refine zC ?_|refine zD ?_|refine zE rfl ?_|refine zF ?_|refine zG ?_|refine zH ?_|refine zI ?_|refine zJ ?_|refine zK ?_|refine zL rfl ?_|refine zN rfl ?_)
        exact wp_ret ⟨rfl, rfl, H⟩
    repeat (first|refine zA ?_|refine zB rfl ?_|refine zC ?_|refine zD ?_|refine zE rfl ?_|refine zF ?_|refine zG ?_|refine zH ?_|refine zI ?_|refine zJ ?_|refine zK ?_|refine zL rfl ?_|refine zN rfl ?_)
    try unfold Try.a8x18
    refine wp_bind (wp_mono body fun t vs S' q => ?_)
    obtain ⟨rfl, rfl, H'⟩ := q
    show wp EM _ _ _
    exact wp_add64 (by omega) (by omega) (wp_ret (.inl ⟨rfl, A.length - (i + 1), by omega, i + 1, rfl, by omega, rfl, H'⟩))
  · repeat (first|refine zA ?_|refine zB rfl ?_|refine zC ?_|refine zD ?_|refine zE rfl ?_|refine zF ?_|refine zG ?_|refine zH ?_|refine zI ?_|refine zJ ?_|refine zK ?_|refine zL rfl ?_|refine zN rfl ?_)
    refine wp_ret (.inr ⟨by simp, ?_⟩)
    show wp EM _ _ _
    exact wp_ret ⟨rfl, rfl⟩
end
end Go.Abs
