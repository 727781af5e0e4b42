/- the abstract machine: calls do what the model does; a statement out of a run. No condition: it holds of every program that has a table of bodies. -/
import Derived.Test.YtdidccjcbfcklaaGreatAb
import Derived.ProofKit
import Derived.Below
import Derived.Deep.Slices
set_option linter.unusedVariables false
namespace Go.Abs
noncomputable section
set_option linter.unusedSectionVars false
variable [Tok]
set_option linter.unusedVariables false
set_option linter.unusedSimpArgs false
variable {P : Program} {ρ : Ren} {F : Fr} {a : Act} {o : Oper} {S : AH} {w : World}

/-! ### a deferred call of a function that defers nothing -/
structure DeferSound (P : Program) (call : CallF) : Prop where
  ok : ∀ {g fa fc args S v S' ρ w d}, call (.fn (.func g) fa fc) args S = some (v, S') → plainFn P g = true → R P ρ S w → CallArg ρ (.fn (.func g) fa fc) args d →
    ∃ cap ys, d.target = .fn (.func g) cap ∧ (invoke d.target d.args).run P w = .ok (.enter g ys) w ∧ ∀ u, u ≠ .run → CallsDIn Fence.wide 0 P g ys u w fun e u' w' => u' = u ∧ CallPost P ρ S w v S' e w'

theorem steps_marks {ρ0 : Ren} {S0 : AH} {w0 : World} : ∀ (ms : List Deferred) (w : World) (fr : Frame) (cs : List Frame), Marks w0.heap.size ρ S w ms → R P ρ S w → Ext ρ0 S0 w0 ρ S w → fr.mode ≠ .run → fr.defers = ms →
    ∃ w', R P ρ S w' ∧ Ext ρ0 S0 w0 ρ S w' ∧ StepsIn (Machine.fenced P Fence.wide) P (lone fr cs w) (lone { fr with defers := [] } cs w')
  | [], w, fr, cs, hm, hR, hE, hmode, hd => ⟨w, hR, hE, by rw [← hd]; exact .refl _⟩
  | m :: ms, w, fr, cs, hm, hR, hE, hmode, hd => by
    obtain ⟨r, h1, h2, h3, h4⟩ := hm.2 m (by simp)
    have hpw := List.pairwise_cons.1 hm.1
    have hm' : Marks w0.heap.size ρ S (w.putObj r (.deferred none)) ms := by
      refine ⟨hpw.2, fun m' hm' => ?_⟩
      obtain ⟨r', k1, k2, k3, k4⟩ := hm.2 m' (by simp [hm'])
      refine ⟨r', k1, k2, ?_, k4⟩
      have hne : r' ≠ r := fun e => hpw.1 m' hm' (by rw [h1, k1, e])
      rw [World.putObj_heap_other hne]; exact k3
    have hs := step_collected (P := P) (cs := cs) hmode hd (by rw [h1]) (run_takeDeferred h3)
    obtain ⟨w', q1, q2, q3⟩ := steps_marks ms _ { fr with defers := [] ++ ms } cs hm' (hR.shut h4 h3) (hE.shut h2) hmode rfl
    refine ⟨w', q1, q2, .head ?_ hs q3⟩
    exact fenced_out (n := 0) trivial (room_wide _) hmode hd (fun g hg => trivial)

def FnPost (P : Program) (ρ : Ren) (S : AH) (w : World) (fn : Func) (v : AV) (S' : AH) : Exit → Act → World → Prop := fun e a' w' =>
  (e = .normal ∨ e = .ret) ∧ ∃ ρ', R P ρ' S' w' ∧ Ext ρ S w ρ' S' w' ∧ Marks w.heap.size ρ' S' w' a'.defers ∧
    ∀ w'', R P ρ' S' w'' → ∃ x, V ρ' v x ∧ (results fn a'.tmps).run P w'' = .ok x w''

theorem calls_of_post {f : FuncId} {fn : Func} {c : Code} {ys : Array Value} {v : AV} {S' : AH} (hf : P.funcs[f]? = some fn) (hb : fn.body = some c)
    (h : c.wpIn (FF none) 0 P (FnPost P ρ S w fn v S') { tmps := ys ++ Array.replicate (fn.ntmps - ys.size) undef, defers := [] } w) : CallsIn Fence.wide 0 P f ys w (CallPost P ρ S w v S') := by
  refine callsIn_of_wp_marks (F := FF none) hf hb trivial (wpIn_mono h fun e a1 w1 q => ?_)
  obtain ⟨he, ρ', h1, h2, h3, h4⟩ := q
  have key : LeavesInM (FF none) 0 P fn a1.tmps (CallPost P ρ S w v S') a1.defers .returning w1 := by
    have := leaves_marks (P := P) (fn := fn) (tmps := a1.tmps) (Rr := CallPost P ρ S w v S') (rest := []) a1.defers w1 h3 h1 h2 (fun w' q1 q2 q3 => by
      obtain ⟨x, g1, g2⟩ := h4 w' q1
      exact ⟨x, g2, x, ρ', rfl, g1, q1, q2⟩)
    rwa [List.append_nil] at this
  rcases he with rfl | rfl <;> exact key

theorem deferred_of_post {f : FuncId} {fn : Func} {c : Code} {ys : Array Value} {v : AV} {S' : AH} {u : FrameMode} (hf : P.funcs[f]? = some fn) (hb : fn.body = some c)
    (h : c.wpIn (FF none) 0 P (FnPost P ρ S w fn v S') { tmps := ys ++ Array.replicate (fn.ntmps - ys.size) undef, defers := [] } w) :
    CallsDIn Fence.wide 0 P f ys u w fun e u' w' => u' = u ∧ CallPost P ρ S w v S' e w' := by
  refine ⟨trivial, fun c₀ cs hu hr => ?_⟩
  let b : Frame := { (default : Frame) with fn := f, kind := .deferred, roundOf := none }
  have henter : Frame.enter P f ys .deferred =
      b.atR { tmps := ys ++ Array.replicate (fn.ntmps - ys.size) undef, defers := [] } [.code c] := by
    simp [Frame.enter, Frame.atR, hf, hb, b]
  have hc : ({ c₀ with mode := u } : Frame) = c₀ := by subst hu; rfl
  obtain ⟨e, a', w', hq, harr⟩ := h b [] (c₀ :: cs) rfl trivial hr
  rw [← henter] at harr
  obtain ⟨he, ρ', h1, h2, h3, h4⟩ := hq
  have key : ∀ fr : Frame, fr.mode = .returning → fr.defers = a'.defers → fr.tmps = a'.tmps → fr.fn = f → fr.kind = .deferred → StepsIn (Machine.fenced P Fence.wide) P (lone (Frame.enter P f ys .deferred) (c₀ :: cs) w) (lone fr (c₀ :: cs) w') →
      ∃ e u' w' fr, (u' = u ∧ CallPost P ρ S w v S' e w') ∧
        ComesIn (Machine.fenced P Fence.wide) P (lone (Frame.enter P f ys .deferred) (c₀ :: cs) w) (lone fr ({ c₀ with mode := u' } :: cs) w') e ∧ fr.kind = .deferred ∧ fr.fn = f ∧ fr.going P w' e := by
    intro fr g1 g2 g3 g4 g5 hs
    obtain ⟨w2, k1, k2, k3⟩ := steps_marks a'.defers w' fr (c₀ :: cs) h3 h1 h2 (by rw [g1]; simp) g2
    obtain ⟨x, l1, l2⟩ := h4 w2 k1
    refine ⟨.returned x, u, w2, { fr with defers := [] }, ⟨rfl, x, ρ', rfl, l1, k1, k2⟩, ?_, g5, g4, g1, rfl, fn, by rw [← hf]; exact congrArg _ g4, by simp only [g3]; exact l2⟩
    rw [hc]; exact StepsIn.trans hs k3
  rcases he with rfl | rfl
  · exact key { b.atR a' [] with mode := .returning } rfl rfl rfl rfl rfl (StepsIn.trans harr (.one (fenced_calm (n := 0) (fr := b.atR a' []) trivial (room_wide _) rfl) (stepR_end rfl)))
  · obtain ⟨todo, hs⟩ := harr.1 rfl
    exact key { b.atR a' todo with mode := .returning } rfl rfl rfl rfl rfl hs
end
end Go.Abs
namespace Go.Abs
noncomputable section
set_option linter.unusedSectionVars false
variable [Tok]
set_option linter.unusedVariables false
set_option linter.unusedSimpArgs false
variable {P : Program} {ρ : Ren} {F : Fr} {a : Act} {o : Oper} {S : AH} {w : World}

theorem VL.oneOf {vs : List AV} {xs : List Value} (h : VL ρ vs xs) : V ρ (Abs.oneOf vs) (if h : xs.toArray.size = 1 then xs.toArray[0] else .tuple xs.toArray) := by
  cases h with
  | nil => exact .tup .nil
  | cons h1 h2 =>
    cases h2 with
    | nil => simpa [Abs.oneOf] using h1
    | cons h3 h4 => simpa [Abs.oneOf] using V.tup (.cons h1 (.cons h3 h4))

theorem loadRs_tmps (P : Program) {call : CallF} {fuel : Nat} {S : AH} : ∀ (rs : List ResultVar) (i : Nat) (pre vs acc : List AV), rs.all isTmp = true → pre.length = i → vs.length = rs.length →
    run P call fuel (loadRs P rs i (pre ++ vs) acc) S = some (.ret, acc ++ vs, S)
  | [], i, pre, vs, acc, _, hi, hl => by
    have : vs = [] := List.length_eq_zero_iff.1 (by simpa using hl)
    subst this
    simp [loadRs, run_ret]
  | .tmp t :: rs, i, pre, vs, acc, h, hi, hl => by
    cases vs with
    | nil => simp at hl
    | cons v vs =>
      have h' : rs.all isTmp = true := by simp only [List.all_cons, Bool.and_eq_true] at h; exact h.2
      have := @loadRs_tmps P call fuel S rs (i + 1) (pre ++ [v]) vs (acc ++ [v]) h' (by simp [hi]) (by simpa using hl)
      simp only [loadRs]
      have e : nth (pre ++ v :: vs) i = v := nth_of (by rw [← hi]; simp)
      rw [e]
      simpa using this
  | .cell _ _ :: rs, _, _, _, _, h, _, _ => by simp [isTmp] at h

section
variable {call : CallF} {fuel : Nat}

theorem results_sound (fn : Func) {F1 : Fr} {ρ1 : Ren} {S1 : AH} {tmps : Array Value} {t : Tag} {vs : List AV} {S' : AH} (hF : FR ρ1 F1 tmps)
    (h : run P call fuel (loadRs P fn.results.toList 0 (F1.outs (fn.results.toList.map ResultVar.slot)) []) S1 = some (t, vs, S')) {w1 : World} (hR : R P ρ1 S1 w1) :
    t = .ret ∧ S' = S1 ∧ ∃ x, V ρ1 (oneOf vs) x ∧ (results fn tmps).run P w1 = .ok x w1 := by
  obtain ⟨news, xs, h1, h2, h3, h4, h5⟩ := loadRs_sound hR fn.results.toList 0 [] t vs S' (fun j r hj => by
    rw [Nat.zero_add, nth_map _ F1 j (ResultVar.slot r) (by simp [hj])]; exact hF _) h
  refine ⟨h1, h3, (if h : xs.toArray.size = 1 then xs.toArray[0] else .tuple xs.toArray), ?_, ?_⟩
  · rw [h2, List.nil_append]; exact h4.oneOf
  · rw [results_eq, Sem.run_bind, mapM_run h5]
    simp only [Result.andThen_ok, Sem.run_pure]

theorem body_sound (hcall : CallSound P call) {fn : Func} {c : Code} {vars : List Nat} {vs : List AV} {S' : AH} (hb : fn.body = some c) (hd : hasDefer c = false) {args : List AV} {xs : List Value} (hx : VL ρ args xs)
    (h : run P call fuel (denFn P fn vars args) S = some (.ret, vs, S')) (hR : R P ρ S w) (hlen : xs.length ≤ fn.ntmps ∨ True) :
    c.wpIn (FF none) 0 P (FnPost P ρ S w fn (oneOf vs) S') { tmps := xs.toArray ++ Array.replicate (fn.ntmps - xs.toArray.size) undef, defers := [] } w := by
  unfold denFn at h
  rw [hb] at h
  simp only at h
  cases hfit : fits fn.ntmps c with
  | false => rw [hfit] at h; cases h
  | true =>
    rw [hfit, hd] at h
    simp only [Bool.not_true, Bool.false_eq_true, if_false] at h
    have hF0 : FR ρ (Fr.puts .e (List.range (fn.params.size + fn.nfree)) 0 args) (xs.toArray ++ Array.replicate (fn.ntmps - xs.toArray.size) undef) := FR.args _ _ hx
    have hfit' : fits (xs.toArray ++ Array.replicate (fn.ntmps - xs.toArray.size) undef).size c = true := fits_mono (by simp; omega) hfit
    have key : ∃ res0, run P call fuel (den P vars false none c (Fr.puts .e (List.range (fn.params.size + fn.nfree)) 0 args) (fn.results.toList.map ResultVar.slot) fun F => .ret .ret (F.outs (fn.results.toList.map ResultVar.slot))) S = some res0 ∧
        ∀ vs0 S0, (res0 = (.ret, vs0, S0)) → (∃ F1 : Fr, vs0 = F1.outs (fn.results.toList.map ResultVar.slot)) → run P call fuel (loadRs P fn.results.toList 0 vs0 []) S0 = some (.ret, vs, S') := by
      cases hall : fn.results.toList.all isTmp with
      | true =>
        rw [hall] at h
        simp only [if_true] at h
        refine ⟨_, h, fun vs0 S0 e ⟨F1, e1⟩ => ?_⟩
        cases e
        have := loadRs_tmps P (S := S') (call := call) (fuel := fuel) fn.results.toList 0 [] vs [] hall rfl (by rw [e1]; simp [Fr.outs])
        simpa using this
      | false =>
        rw [hall] at h
        simp only [Bool.false_eq_true, if_false] at h
        rw [run_fin] at h
        unfold runFin at h
        cases hm : run P call fuel (den P vars false none c (Fr.puts .e (List.range (fn.params.size + fn.nfree)) 0 args) (fn.results.toList.map ResultVar.slot) fun F => .ret .ret (F.outs (fn.results.toList.map ResultVar.slot))) S with
        | none => rw [hm] at h; cases h
        | some res0 =>
          refine ⟨res0, rfl, fun vs0 S0 e _ => ?_⟩
          subst e
          rw [hm] at h
          exact h
    obtain ⟨res0, k1, k2⟩ := key
    refine wpIn_mono (den_sound hcall c false none _ _ _ S res0 ρ _ w none (fun _ => rfl) k1 hR hF0 hfit') fun e a1 w1 q => ?_
    obtain ⟨ρ1, S1, F1, ms, h1, h2, h3, h4, h5, h6, h7⟩ := q
    have hdef : a1.defers = ms := by rw [h5]; simp
    have fin : res0 = (.ret, F1.outs (fn.results.toList.map ResultVar.slot), S1) → ∃ ρ', R P ρ' S' w1 ∧ Ext ρ S w ρ' S' w1 ∧ Marks w.heap.size ρ' S' w1 a1.defers ∧ ∀ w'', R P ρ' S' w'' → ∃ x, V ρ' (oneOf vs) x ∧ (results fn a1.tmps).run P w'' = .ok x w'' := by
      intro e0
      have hl := k2 _ _ e0 ⟨F1, rfl⟩
      obtain ⟨_, rfl, _⟩ := results_sound fn h2 hl h1
      refine ⟨ρ1, h1, h3, by rw [hdef]; exact h6, fun w'' hR'' => ?_⟩
      exact (results_sound fn h2 hl hR'').2.2
    cases e with
    | normal => exact ⟨.inl rfl, fin (Option.some.inj h7).symm⟩
    | ret => exact ⟨.inr rfl, fin h7⟩
    | exit id =>
      exfalso
      have e0 : res0 = (.exit (3 * id), F1.outs (fn.results.toList.map ResultVar.slot), S1) := h7
      subst e0
      cases hall : fn.results.toList.all isTmp with
      | true =>
        rw [hall] at h
        simp only [if_true] at h
        rw [k1] at h; cases h
      | false =>
        rw [hall] at h
        simp only [Bool.false_eq_true, if_false] at h
        rw [run_fin] at h
        unfold runFin at h
        rw [k1] at h
        cases h
    | goto l => exact (by cases h7.1)
    | panic ch => exact h7.elim
    | outgrown => exact h7.elim
end
end
end Go.Abs
namespace Go.Abs
noncomputable section
set_option linter.unusedSectionVars false
variable [Tok]
set_option linter.unusedVariables false
set_option linter.unusedSimpArgs false
variable {P : Program} {ρ : Ren} {F : Fr} {a : Act} {o : Oper} {S : AH} {w : World}

section
variable {call : CallF} {fuel : Nat} {gt : Option Nat}

theorem CallArg.mono {ρ' : Ren} (hl : ρ.le ρ') {f : AV} {args : List AV} {d : Deferred} (h : CallArg ρ f args d) : CallArg ρ' f args d := by
  rcases h with ⟨fn, fa, fc, a', c', xs, e, h1, h2, h3, h4, h5⟩ | ⟨id, b, o, l, xs, e, h1, h2, h3, h4⟩ | ⟨m, xs, e, h1, h2, h3⟩
  · exact .inl ⟨fn, fa, fc, a', c', xs, e, h1.mono hl, h2.mono hl, h3.mono hl, h4, h5⟩
  · exact .inr (.inl ⟨id, b, o, l, xs, e, hl _ _ h1, h2.mono hl, h3, h4⟩)
  · exact .inr (.inr ⟨m, xs, e, h1.mono hl, h2, h3⟩)

theorem CallPost.of_ext {ρ1 : Ren} {S1 : AH} {w1 : World} {v : AV} {S' : AH} (hE : Ext ρ S w ρ1 S1 w1) {e : Ending} {w' : World} (h : CallPost P ρ1 S1 w1 v S' e w') : CallPost P ρ S w v S' e w' := by
  obtain ⟨x, ρ', e, h1, h2, h3⟩ := h
  exact ⟨x, ρ', e, h1, h2, hE.trans h3⟩

theorem straight_sound (hcall : CallSound P call) {vars : List Nat} {round : Bool} {ro : Option Nat} : ∀ (c : Code) (F : Fr) (K : Fr → AC) (S : AH) (res : Tag × List AV × AH) (ρ : Ren) (a : Act) (w : World) (Q : Exit → Act → World → Prop), straight c = true →
    run P call fuel (den P vars round gt c F [] K) S = some res → R P ρ S w → FR ρ F a.tmps → fits a.tmps.size c = true →
    (∀ ρ' S' F' a' w', run P call fuel (K F') S' = some res → R P ρ' S' w' → FR ρ' F' a'.tmps → Ext ρ S w ρ' S' w' → a'.tmps.size = a.tmps.size → a'.defers = a.defers → Q .normal a' w') →
    c.wpIn (FF ro) 0 P Q a w := by
  intro c
  induction c with
  | skip => intro F K S res ρ a w Q hs h hR hF hfit hQ; exact wpIn_skip (hQ ρ S F a w h hR hF (Ext.refl _ _ _) rfl rfl)
  | label l => intro F K S res ρ a w Q hs h hR hF hfit hQ; exact wpIn_label (hQ ρ S F a w h hR hF (Ext.refl _ _ _) rfl rfl)
  | region id ops draw =>
    intro F K S res ρ a w Q hs h hR hF hfit hQ
    have hops := fits_ops hfit
    have hpost : ∀ ρ' S' F' a' w', run P call fuel (K F') S' = some res → R P ρ' S' w' → FR ρ' F' a'.tmps → Ext ρ S w ρ' S' w' → Keeps (wrt (.region id ops draw) []) a a' → a'.defers = a.defers → Q .normal a' w' :=
      fun ρ' S' F' a' w' k1 k2 k3 k4 k5 k6 => hQ ρ' S' F' a' w' k1 k2 k3 k4 k5.size k6
    simp only [den] at h
    cases hp : plan P ops draw with
    | none => rw [hp] at h; cases h
    | some p =>
      rw [hp] at h
      simp only at h
      cases draw with
      | true => exact draw_sound hcall hp h hR hF hops hpost
      | false =>
        unfold plan at hp
        simp only [Bool.false_eq_true, if_false] at hp
        cases hp
        exact wpIn_region (text_sound hcall (fun i o d h1 h2 => (hops i o d h1 h2).2) _ F [] a w ρ S h hR hF (fun i o d h1 h2 => (hops i o d h1 h2).1) hpost)
  | seq x y ihx ihy =>
    intro F K S res ρ a w Q hs h hR hF hfit hQ
    simp only [straight, Bool.and_eq_true] at hs
    simp only [den] at h
    simp only [fits, Bool.and_eq_true] at hfit
    refine wpIn_seq (ihx F _ S res ρ a w _ hs.1 h hR hF hfit.1 fun ρ1 S1 F1 a1 w1 k1 k2 k3 k4 k5 k6 => ?_)
    exact ihy F1 K S1 res ρ1 a1 w1 Q hs.2 k1 k2 k3 (by rw [k5]; exact hfit.2) fun ρ2 S2 F2 a2 w2 l1 l2 l3 l4 l5 l6 => hQ ρ2 S2 F2 a2 w2 l1 l2 l3 (k4.trans l4) (l5.trans k5) (l6.trans k6)
  | _ => intro F K S res ρ a w Q hs; simp [straight] at hs

theorem lastDefer_some {ops : Array Oper} {c : Call} (h : lastDefer ops = some c) : ∃ o, ops[ops.size - 1]? = some o ∧ o.guard = none ∧ o.dst = none ∧ o.op = .defer c ∧ List.range ops.size = List.range (ops.size - 1) ++ [ops.size - 1] := by
  unfold lastDefer at h
  cases hb : ops.back? with
  | none => rw [hb] at h; cases h
  | some o =>
    rw [hb] at h
    simp only at h
    rw [Array.back?_eq_getElem?] at hb
    have hlt := (Array.getElem?_eq_some_iff.1 hb).1
    cases hg : o.guard with
    | some _ => rw [hg] at h; cases h
    | none =>
      cases hd : o.dst with
      | some _ => rw [hg, hd] at h; cases h
      | none =>
        rw [hg, hd] at h
        simp only at h
        cases ho : o.op with
        | defer c' =>
          rw [ho] at h
          cases h
          refine ⟨o, hb, hg, hd, ho, ?_⟩
          rw [← List.range_succ]
          congr 1
          omega
        | _ => rw [ho] at h; cases h

theorem wpOps_snoc {ops : Array Oper} {Q : Exit → Act → World → Prop} {j : Nat} {c : Call} {o : Oper} (ho : ops[j]? = some o) (hg : o.guard = none) (hop : o.op = .defer c) : ∀ (l : List Nat) (a : Act) (w : World),
    wpOpsIn (FF none) 0 P ops (fun e a' w' => e = .normal ∧ ∃ d, (resolve a'.eval c o.type).run P w' = .ok d w' ∧ Q .normal ({ a' with defers := d :: a'.defers }.put o.dst undef) w') l a w → wpOpsIn (FF none) 0 P ops Q (l ++ [j]) a w
  | [], a, w, h => by
    obtain ⟨_, d, h1, h2⟩ := h
    show wpOpsIn (FF none) 0 P ops Q [j] a w
    simp only [wpOpsIn, ho, Region.wanted, hg, if_true]
    refine ⟨fun _ _ => trivial, ?_⟩
    have hs : o.semAt (FF none).round a.eval = execOp a.eval o := rfl
    have hex : execOp a.eval o = (do pure (.defer (← resolve a.eval c o.type))) := by simp [execOp, hop]
    rw [hs, hex, Sem.run_bind, h1, Result.andThen_ok, Sem.run_pure]
    exact h2
  | i :: l, a, w, h => by
    show wpOpsIn (FF none) 0 P ops Q (i :: (l ++ [j])) a w
    simp only [wpOpsIn] at h ⊢
    cases hi : ops[i]? with
    | none => rw [hi] at h; exact wpOps_snoc ho hg hop l a w h
    | some oi =>
      rw [hi] at h
      simp only at h ⊢
      split
      · rename_i hw
        rw [if_pos hw] at h
        refine ⟨h.1, ?_⟩
        have h2 := h.2
        clear h
        generalize (oi.semAt (FF none).round a.eval).run P w = r at h2 ⊢
        cases r with
        | ok nx w' =>
          cases nx with
          | value v => exact wpOps_snoc ho hg hop l _ _ h2
          | skip => exact wpOps_snoc ho hg hop l _ _ h2
          | defer d => exact wpOps_snoc ho hg hop l _ _ h2
          | enter f args =>
            refine ⟨h2.1, CallsIn.mono h2.2 fun e w'' q => ?_⟩
            cases e with
            | returned v => exact wpOps_snoc ho hg hop l _ _ q
            | panicked ch => exact absurd q.1 (by simp)
            | outgrown => obtain ⟨_, _, q⟩ := q; exact absurd q.1 (by simp)
          | row r args => exact ⟨h2.1, RowsIn.mono h2.2 fun v w'' q => wpOps_snoc ho hg hop l _ _ q⟩
          | round l' f tmps asgn body =>
            refine ⟨h2.1, RoundIn.mono h2.2 fun e w'' q => ?_⟩
            cases e with
            | returned v => exact wpOps_snoc ho hg hop l _ _ q
            | panicked ch => exact absurd q.1 (by simp)
            | outgrown => obtain ⟨_, _, q⟩ := q; exact absurd q.1 (by simp)
          | _ => exact h2.elim
        | halt x w' =>
          cases x with
          | panic v => exact absurd h2.1 (by simp)
          | _ => exact h2.elim
      · rename_i hw
        rw [if_neg hw] at h
        exact ⟨h.1, wpOps_snoc ho hg hop l _ _ h.2⟩
end
end
end Go.Abs
namespace Go.Abs
noncomputable section
set_option linter.unusedSectionVars false
variable [Tok]
set_option linter.unusedVariables false
set_option linter.unusedSimpArgs false
variable {P : Program} {ρ : Ren} {F : Fr} {a : Act} {o : Oper} {S : AH} {w : World}

section
variable {call : CallF} {fuel : Nat}

def defTail (P : Program) (vars : List Nat) (rs : List ResultVar) (out : List Nat) (b : Code) (c : Call) (F1 : Fr) : AC :=
  match c.callee with
  | .value f => match F1.ev f with
    | .fn (.func g) fa fc =>
      if plainFn P g then .fin (den P vars false none b F1 out fun F => .ret .ret (F.outs out)) fun vs =>
        .call (.fn (.func g) fa fc) (c.args.toList.map F1.ev) fun _ => loadRs P rs 0 vs []
      else .fail
    | _ => .fail
  | _ => .fail

theorem denD_some {vars : List Nat} {rs : List ResultVar} {out : List Nat} {x b : Code} {F : Fr} {ops : Array Oper} {c : Call} (h : deferAt x = some (ops, c)) :
    denD P vars rs out (.seq x b) F = denSteps P ops ((List.range (ops.size - 1)).map .exec) F [] (defTail P vars rs out b c) := by
  simp only [denD, h]; rfl
theorem denD_none {vars : List Nat} {rs : List ResultVar} {out : List Nat} {x b : Code} {F : Fr} (h : deferAt x = none) :
    denD P vars rs out (.seq x b) F = if straight x then den P vars false none x F [] fun F1 => denD P vars rs out b F1 else .fail := by
  simp only [denD, h]

theorem leavesInM_mono {Fe : Fence} {n : Nat} {fn : Func} {tmps : Array Value} {R R' : Ending → World → Prop} (hm : ∀ e w, R e w → R' e w) : ∀ (ds : List Deferred) (u : FrameMode) (w : World), LeavesInM Fe n P fn tmps R ds u w → LeavesInM Fe n P fn tmps R' ds u w
  | [], .returning, w, h => let ⟨v, h1, h2⟩ := h; ⟨v, h1, hm _ _ h2⟩
  | [], .panicking ch, w, h => hm _ _ h
  | [], .run, w, h => h
  | d :: ds, u, w, h => by
    refine ⟨h.1, ?_⟩
    rcases h.2 with ⟨r, w', h1, h2, h3⟩ | ⟨h1, fv, cap, f, args, h2, h3, h4, h5⟩
    · exact .inl ⟨r, w', h1, h2, leavesInM_mono hm ds u w' h3⟩
    · refine .inr ⟨h1, fv, cap, f, args, h2, h3, h4, CallsDIn.mono h5 fun e u' w' q => ?_⟩
      cases e with
      | returned v => exact leavesInM_mono hm ds _ w' q
      | panicked ch => exact leavesInM_mono hm ds _ w' q
      | outgrown => exact hm _ _ q
theorem bodyPostM_mono {Fe : Fence} {n : Nat} {fn : Func} {R R' : Ending → World → Prop} (hm : ∀ e w, R e w → R' e w) {e : Exit} {a : Act} {w : World} (h : bodyPostM Fe n P fn R e a w) : bodyPostM Fe n P fn R' e a w := by
  cases e with
  | normal => exact leavesInM_mono hm _ _ _ h
  | ret => exact leavesInM_mono hm _ _ _ h
  | panic ch => exact leavesInM_mono hm _ _ _ h
  | outgrown => exact hm _ _ h
  | exit i => exact h
  | goto l => exact h

theorem denD_sound (hcall : CallSound P call) (hdef : DeferSound P call) {vars : List Nat} {fn : Func} {vs : List AV} {S' : AH} : ∀ (c : Code) (F : Fr) (S : AH) (ρ : Ren) (a : Act) (w : World),
    run P call fuel (denD P vars fn.results.toList (fn.results.toList.map ResultVar.slot) c F) S = some (.ret, vs, S') → R P ρ S w → FR ρ F a.tmps → fits a.tmps.size c = true → a.defers = [] →
    c.wpIn (FF none) 0 P (bodyPostM (FF none) 0 P fn (CallPost P ρ S w (oneOf vs) S')) a w := by
  intro c
  induction c with
  | seq x b ihx ihb =>
    intro F S ρ a w h hR hF hfit hd0
    simp only [fits, Bool.and_eq_true] at hfit
    cases hda : deferAt x with
    | none =>
      rw [denD_none hda] at h
      cases hs : straight x with
      | false => rw [hs] at h; cases h
      | true =>
        rw [hs] at h
        simp only [if_true] at h
        refine wpIn_seq (straight_sound hcall x F _ S _ ρ a w _ hs h hR hF hfit.1 fun ρ1 S1 F1 a1 w1 k1 k2 k3 k4 k5 k6 => ?_)
        refine wpIn_mono (ihb F1 S1 ρ1 a1 w1 k1 k2 k3 (by rw [k5]; exact hfit.2) (by rw [k6, hd0])) fun e a2 w2 q => ?_
        have hm : ∀ (e : Ending) w', CallPost P ρ1 S1 w1 (oneOf vs) S' e w' → CallPost P ρ S w (oneOf vs) S' e w' := fun e w' q => q.of_ext k4
        exact bodyPostM_mono hm q
    | some q =>
      obtain ⟨ops, c⟩ := q
      rw [denD_some hda] at h
      cases x with
      | region id ops' dr =>
        cases dr with
        | true => simp [deferAt] at hda
        | false =>
          have hld : ops' = ops ∧ lastDefer ops = some c := by
            simp only [deferAt] at hda
            cases hl : lastDefer ops' with
            | none => rw [hl] at hda; cases hda
            | some c' => rw [hl] at hda; cases hda; exact ⟨rfl, hl⟩
          obtain ⟨rfl, hld⟩ := hld
          obtain ⟨o, ho, hg, hdst, hop, hrange⟩ := lastDefer_some hld
          have hops := fits_ops hfit.1
          refine wpIn_seq (wpIn_region ?_)
          rw [hrange]
          refine wpOps_snoc ho hg hop _ a w ?_
          refine text_sound hcall (W := wrt (.region id ops' false) []) (fun i o d h1 h2 => (hops i o d h1 h2).2) _ F [] a w ρ S h hR hF (fun i o d h1 h2 => (hops i o d h1 h2).1) fun ρ1 S1 F1 a1 w1 k1 k2 k3 k4 k5 k6 => ?_
          refine ⟨rfl, ?_⟩
          unfold defTail at k1
          cases hcal : c.callee with
          | value f =>
            rw [hcal] at k1
            simp only at k1
            have hfv := ev_sound k3 f
            cases hev : F1.ev f with
            | fn g fa fc =>
              rw [hev] at k1
              cases g with
              | func g =>
                simp only at k1
                cases hpl : plainFn P g with
                | false => rw [hpl] at k1; cases k1
                | true =>
                  rw [hpl] at k1
                  simp only [if_true] at k1
                  obtain ⟨d, hres, harg⟩ := callArg_value (P := P) (c := c) (f := .fn (.func g) fa fc) rfl hcal (hev ▸ hfv) (evs_sound k3 c.args.toList) o.type
                  refine ⟨d, hres w1, ?_⟩
                  rw [run_fin] at k1
                  unfold runFin at k1
                  cases hm : run P call fuel (den P vars false none b F1 (fn.results.toList.map ResultVar.slot) fun F => .ret .ret (F.outs (fn.results.toList.map ResultVar.slot))) S1 with
                  | none => rw [hm] at k1; cases k1
                  | some res0 =>
                    rw [hm] at k1
                    have hFd : FR ρ1 F1 (({ a1 with defers := d :: a1.defers } : Act).put o.dst undef).tmps := by rw [hdst]; exact k3
                    have hsz : (({ a1 with defers := d :: a1.defers } : Act).put o.dst undef).tmps.size = a.tmps.size := by rw [put_size]; exact k5.size
                    show Code.wpIn (FF none) 0 P b _ _ w1
                    refine wpIn_mono (den_sound hcall b false none F1 _ _ S1 res0 ρ1 _ w1 none (fun _ => rfl) hm k2 hFd (by rw [hsz]; exact hfit.2)) fun e a2 w2 q => ?_
                    obtain ⟨ρ2, S2, F2, ms, h1, h2, h3, h4, h5, h6, h7⟩ := q
                    have hdf : a2.defers = ms ++ [d] := by rw [h5, put_defers]; simp [k6, hd0]
                    have fin : res0 = (.ret, F2.outs (fn.results.toList.map ResultVar.slot), S2) → LeavesInM (FF none) 0 P fn a2.tmps (CallPost P ρ S w (oneOf vs) S') a2.defers .returning w2 := by
                      intro e0
                      subst e0
                      simp only at k1
                      rw [run_call] at k1
                      obtain ⟨v, S3, g1, g2⟩ := thenK_some k1
                      rw [hdf]
                      refine leaves_marks (ρ0 := ρ1) (S0 := S1) (w0 := w1) ms w2 h6 h1 h3 fun w3 j1 j2 j3 => ?_
                      obtain ⟨cap, ys, l1, l2, l3⟩ := hdef.ok g1 hpl j1 (harg.mono h3.ren)
                      refine ⟨by simp, .inr ⟨fun h => by simp [FF] at h, .func g, cap, g, ys, l1, l2, fun _ _ => trivial, ?_⟩⟩
                      refine CallsDIn.mono (l3 .returning (by simp)) fun e u' w4 hq => ?_
                      obtain ⟨rfl, x, ρ3, rfl, m1, m2, m3⟩ := hq
                      have hF3 : FR ρ3 F2 a2.tmps := h2.mono m3.ren
                      obtain ⟨_, hS, y, n1, n2⟩ := results_sound fn hF3 g2 m2
                      subst hS
                      show LeavesInM (FF none) 0 P fn a2.tmps _ [] (settle .returning) w4
                      exact ⟨y, n2, y, ρ3, rfl, n1, m2, k4.trans (j2.trans m3)⟩
                    cases e with
                    | normal => exact fin (Option.some.inj h7).symm
                    | ret => exact fin h7
                    | exit i =>
                      have e0 : res0 = (.exit (3 * i), F2.outs (fn.results.toList.map ResultVar.slot), S2) := h7
                      subst e0
                      cases k1
                    | goto l => exact (by cases h7.1)
                    | panic ch => exact h7.elim
                    | outgrown => exact h7.elim
              | _ => cases k1
            | _ => rw [hev] at k1; cases k1
          | _ => rw [hcal] at k1; cases k1
      | _ => simp [deferAt] at hda
  | _ => intro F S ρ a w h; simp only [denD] at h; cases h
end
end
end Go.Abs
namespace Go.Abs
noncomputable section
set_option linter.unusedSectionVars false
variable [Tok]
set_option linter.unusedVariables false
set_option linter.unusedSimpArgs false
variable {P : Program} {ρ : Ren} {F : Fr} {a : Act} {o : Oper} {S : AH} {w : World}

def TblOk (P : Program) (tbl : Table) : Prop := ∀ f b, tbl f = some b → ∃ fn vars, P.funcs[f]? = some fn ∧ (fn.name == "runtime.NumGoroutine") = false ∧ b = denFn P fn vars

theorem denFn_body {call : CallF} {fuel : Nat} {fn : Func} {vars : List Nat} {args : List AV} {r : Tag × List AV × AH} (h : run P call fuel (denFn P fn vars args) S = some r) : ∃ c, fn.body = some c ∧ fits fn.ntmps c = true := by
  unfold denFn at h
  cases hb : fn.body with
  | none => rw [hb] at h; cases h
  | some c =>
    rw [hb] at h
    simp only at h
    cases hf : fits fn.ntmps c with
    | true => exact ⟨c, rfl, hf⟩
    | false => rw [hf] at h; cases h

theorem run_callFunc {g : FuncId} {fn : Func} {c : Code} {args : Array Value} (hf : P.funcs[g]? = some fn) (hn : (fn.name == "runtime.NumGoroutine") = false) (hb : fn.body = some c) :
    (callFunc g args).run P w = .ok (.enter g args) w := by
  have hn' : ¬ fn.name = "runtime.NumGoroutine" := by simpa using hn
  simp [callFunc, Sem.run_bind, program, Sem.run, hf, Result.andThen, hn', hb]

theorem enter_sound {call : CallF} {fuel : Nat} (hcall : CallSound P call) (hdef : DeferSound P call) {g : FuncId} {fn : Func} {vars : List Nat} {args vs : List AV} {xs : List Value} {S' : AH} (hf : P.funcs[g]? = some fn)
    (hx : VL ρ args xs) (h : run P call fuel (denFn P fn vars args) S = some (.ret, vs, S')) (hR : R P ρ S w) : CallsIn Fence.wide 0 P g xs.toArray w (CallPost P ρ S w (oneOf vs) S') := by
  obtain ⟨c, hb, hfit⟩ := denFn_body h
  cases hd : hasDefer c with
  | false => exact calls_of_post hf hb (body_sound hcall hb hd hx h hR (.inr trivial))
  | true =>
    have hF0 : FR ρ (Fr.puts .e (List.range (fn.params.size + fn.nfree)) 0 args) (xs.toArray ++ Array.replicate (fn.ntmps - xs.toArray.size) undef) := FR.args _ _ hx
    have hfit' : fits (xs.toArray ++ Array.replicate (fn.ntmps - xs.toArray.size) undef).size c = true := fits_mono (by simp; omega) hfit
    unfold denFn at h
    rw [hb] at h
    simp only [hfit, hd, Bool.not_true, Bool.false_eq_true, if_false, if_true] at h
    exact callsIn_of_wp_marks (F := FF none) hf hb trivial (denD_sound hcall hdef c _ S ρ { tmps := xs.toArray ++ Array.replicate (fn.ntmps - xs.toArray.size) undef, defers := [] } w h hR hF0 hfit' rfl)

/-! ### a round -/
theorem FR.fold {n : Nat} : ∀ (ps : List Nat) (xs : List Value) (F : Fr) (tmps : Array Value) (i : Nat) (vs : List AV), FR ρ F tmps → ps.length = xs.length → (∀ p ∈ ps, p < tmps.size) → (∀ j, V ρ (nth vs (i + j)) (xs.getD j undef)) →
    FR ρ (F.puts ps i vs) ((ps.zip xs).foldl (fun t (p : Nat × Value) => t.setIfInBounds p.1 p.2) tmps) ∧ ((ps.zip xs).foldl (fun t (p : Nat × Value) => t.setIfInBounds p.1 p.2) tmps).size = tmps.size
  | [], xs, F, tmps, i, vs, hF, hl, hp, hv => ⟨hF, rfl⟩
  | p :: ps, [], F, tmps, i, vs, hF, hl, hp, hv => by simp at hl
  | p :: ps, x :: xs, F, tmps, i, vs, hF, hl, hp, hv => by
    simp only [List.zip_cons_cons, List.foldl_cons, Fr.puts]
    have h1 : FR ρ (T.set F p (nth vs i)) (tmps.setIfInBounds p x) := by
      have := FR.put (a := { tmps := tmps, defers := [] }) hF (d := some p) (v := nth vs i) (x := x) (hv 0) (fun e he => by cases he; exact hp p (by simp))
      exact this
    obtain ⟨q1, q2⟩ := FR.fold (n := n) ps xs _ (tmps.setIfInBounds p x) (i + 1) vs h1 (by simpa using hl) (fun q hq => by rw [Array.size_setIfInBounds]; exact hp q (by simp [hq])) (fun j => by
      have := hv (j + 1)
      simpa [show i + (j + 1) = i + 1 + j by omega] using this)
    exact ⟨q1, by rw [q2, Array.size_setIfInBounds]⟩

theorem round_sound {call : CallF} {fuel : Nat} (hcall : CallSound P call) {l : Nat} {pend : Option Tag} {m : Nat} {body : List AV → AC} {args : List AV} {xs : List Value} {b o len : Nat} {t : Tag} {vs : List AV} {S' : AH} {v : AV} {S2 : AH}
    (hR : R P ρ S w) (hl : ρ l = some (b, o, len)) (hg : S.get l = some (.loop .ready pend m body)) (hx : VL ρ args xs) (hlen : args.length = m)
    (h : run P call fuel (body (.yd l :: args)) S = some (t, vs, S')) {p2 : Option Tag} {m2 : Nat} {b2 : List AV → AC} (hg2 : S'.get l = some (.loop .busy p2 m2 b2))
    (hv : (t = .normal ∧ v = .sc (.bool true) ∧ S2 = S'.set l (.loop .ready none m2 b2)) ∨ (t ≠ .normal ∧ v = .sc (.bool false) ∧ S2 = S'.set l (.loop .done (some t) m2 b2))) :
    ∃ g tmps asgn bd, (Instr.yield b xs.toArray).run P w = .ok (.round b g tmps asgn bd) w ∧ RoundIn Fence.wide 0 P b g tmps asgn bd w (CallPost P ρ S w v S2) := by
  obtain ⟨r, g1, g2, g3, g4, F0, vars, l1, l2, l3, l4, l5, l6⟩ := hR.objs hg hl
  have hlx : xs.length = r.params.size := by rw [g4, ← hlen]; exact hx.length.symm
  refine ⟨r.fn, _, r.assign, r.body, run_yield g1 (by simpa using hlx), ?_⟩
  have hfold : (r.params.zip xs.toArray).foldl (fun tmps (x : Tmp × Value) => tmps.setIfInBounds x.1 x.2) r.tmps = (r.params.toList.zip xs).foldl (fun t (p : Nat × Value) => t.setIfInBounds p.1 p.2) r.tmps := by
    rw [← Array.foldl_toList, Array.toList_zip]
  have hfold' : (r.params.zip xs.toArray).foldl (fun tmps (x : Tmp × Value) => match x with | (t, a) => tmps.setIfInBounds t a) r.tmps = (r.params.toList.zip xs).foldl (fun t (p : Nat × Value) => t.setIfInBounds p.1 p.2) r.tmps := hfold
  have hF1 := FR.fold (n := 0) r.params.toList xs F0 r.tmps 1 (.yd l :: args) l1 (by simpa using hlx.symm) l5 (fun j => by
    rw [Nat.add_comm]; exact hx.nthD j)
  rw [l6] at h
  rw [hfold']
  generalize (r.params.toList.zip xs).foldl (fun t (p : Nat × Value) => t.setIfInBounds p.1 p.2) r.tmps = tm at hF1 ⊢
  obtain ⟨hF1, hsz⟩ := hF1
  refine roundIn_of_wpIn (F := Fence.wide) trivial ?_
  show Code.wpIn (FF (some b)) 0 P r.assign _ _ w
  refine straight_sound (ro := some b) hcall r.assign _ _ S _ ρ { tmps := tm, defers := [] } w _ l2 h hR hF1 (by simp only [hsz]; exact l3) fun ρ1 S1 F1 a1 w1 k1 k2 k3 k4 k5 k6 => ?_
  have hl1 := k4.ren _ _ hl
  rw [run_start] at k1
  unfold runStart at k1
  have hn0 : nth (AV.yd l :: args) 0 = .yd l := rfl
  rw [hn0] at k1
  simp only at k1
  cases hgs : S1.get l with
  | none => rw [hgs] at k1; cases k1
  | some ob =>
    rw [hgs] at k1
    cases ob with
    | loop st pd n1 bd1 =>
      cases st with
      | ready =>
        simp only at k1
        obtain ⟨r1, m1, m2', m3, m4, m5⟩ := k2.objs hgs hl1
        refine ⟨w1.putObj b (.loop { r1 with state := .busy }), run_beginRound m1 m2', ?_⟩
        have hlt := (Array.getElem?_eq_some_iff.1 m1).1
        obtain ⟨hR2, hE2⟩ := k2.set (w' := w1.putObj b (.loop { r1 with state := .busy })) hgs rfl hl1 ⟨rfl, rfl, rfl⟩ World.putObj_size (fun k hk => World.putObj_heap_other hk)
          (ob' := .loop .busy pd n1 bd1) ⟨{ r1 with state := .busy }, World.putObj_heap_same hlt, rfl, m3, m4, m5⟩ rfl
        show Code.wpIn (FF (some b)) 0 P r.body _ a1 _
        refine wpIn_mono (den_sound hcall r.body true none F1 [] _ _ _ ρ1 a1 _ (some b) (fun e => by cases e) k1 hR2 k3 (by simp only [k5, hsz]; exact l4)) fun e a3 w3 q => ?_
        obtain ⟨ρ3, S3, F3, ms, n1', n2, n3, n4, n5, n6, n7⟩ := q
        have hE3 : Ext ρ S w ρ3 S3 w3 := k4.trans (hE2.trans n3)
        have hl3 := hE3.ren _ _ hl
        have fin : (t, vs, S') = (t, vs, S3) → ∀ jump, (t = .normal ∧ jump = none ∨ t ≠ .normal ∧ ∃ j, jump = some j ∧ pendR (some t) (some j)) → ∃ v' w', (Instr.endRound b jump).run P w3 = .ok v' w' ∧ CallPost P ρ S w v S2 (.returned v') w' := by
          intro e0 jump hj
          have e1 : S' = S3 := by injection e0 with _ e0; injection e0
          rw [e1] at hg2 hv
          obtain ⟨r3, p1, p2', p3, p4, p5⟩ := n1'.objs hg2 hl3
          have hlt3 := (Array.getElem?_eq_some_iff.1 p1).1
          refine ⟨_, _, run_endRound jump p1, ?_⟩
          rcases hv with ⟨ht, rfl, rfl⟩ | ⟨ht, rfl, rfl⟩
          · rcases hj with ⟨_, rfl⟩ | ⟨hne, _⟩
            · obtain ⟨hR4, hE4⟩ := n1'.set (w' := w3.putObj b (.loop { r3 with state := .ready, pending := none })) hg2 rfl hl3 ⟨rfl, rfl, rfl⟩ World.putObj_size (fun k hk => World.putObj_heap_other hk)
                (ob' := .loop .ready none m2 b2) ⟨{ r3 with state := .ready, pending := none }, World.putObj_heap_same hlt3, rfl, trivial, p4, p5⟩ rfl
              exact ⟨_, ρ3, rfl, .sc rfl, hR4, hE3.trans hE4⟩
            · exact absurd ht hne
          · rcases hj with ⟨he, _⟩ | ⟨_, j, rfl, hp⟩
            · exact absurd he ht
            · obtain ⟨hR4, hE4⟩ := n1'.set (w' := w3.putObj b (.loop { r3 with state := .done, pending := some j })) hg2 rfl hl3 ⟨rfl, rfl, rfl⟩ World.putObj_size (fun k hk => World.putObj_heap_other hk)
                (ob' := .loop .done (some t) m2 b2) ⟨{ r3 with state := .done, pending := some j }, World.putObj_heap_same hlt3, rfl, hp, p4, p5⟩ rfl
              exact ⟨_, ρ3, rfl, .sc rfl, hR4, hE3.trans hE4⟩
        cases e with
        | normal =>
          have e0 : (t, vs, S') = (Tag.normal, [], S3) := (Option.some.inj n7).symm
          injection e0 with e1 e2
          injection e2 with e2 e3
          subst e1 e2 e3
          exact fin rfl none (.inl ⟨rfl, rfl⟩)
        | exit i =>
          have e0 : (t, vs, S') = (Tag.exit (3 * i), [], S3) := n7
          injection e0 with e1 e2
          injection e2 with e2 e3
          subst e1 e2 e3
          exact fin rfl _ (.inr ⟨by simp, _, rfl, rfl⟩)
        | ret =>
          have e0 : (t, vs, S') = (Tag.ret, [], S3) := n7
          injection e0 with e1 e2
          injection e2 with e2 e3
          subst e1 e2 e3
          exact fin rfl _ (.inr ⟨by simp, _, rfl, trivial⟩)
        | goto l => exact (by cases n7.1)
        | panic ch => exact n7.elim
        | outgrown => exact n7.elim
      | _ => cases k1
    | _ => cases k1
end
end Go.Abs
namespace Go.Abs
noncomputable section
set_option linter.unusedSectionVars false
variable [Tok]
set_option linter.unusedVariables false
set_option linter.unusedSimpArgs false
variable {P : Program} {ρ : Ren} {F : Fr} {a : Act} {o : Oper} {S : AH} {w : World}

theorem run_method {t : TypeId} {v r : AV} {name : String} {f : FuncId} {x : Value} {n : Nat} (h : methodOf P t v name = some (f, r)) : r = v ∧ (method (n + 1) t x name).run P w = .ok (f, x) w := by
  unfold methodOf at h
  cases hi : P.info? t with
  | none => rw [hi] at h; cases h
  | some i =>
    rw [hi] at h
    simp only at h
    cases hm : i.methods.find? (·.name == name) with
    | none => rw [hm] at h; cases h
    | some m =>
      rw [hm] at h
      simp only at h
      cases hp : m.path.isEmpty with
      | false => rw [hp] at h; cases h
      | true =>
        rw [hp] at h
        simp only [if_true] at h
        have hpl : m.path.toList = [] := by simpa using hp
        cases hmf : m.func with
        | none => rw [hmf] at h; cases h
        | some q =>
          obtain ⟨f', pr⟩ := q
          rw [hmf] at h
          cases hu : P.underlying t with
          | none => rw [hu] at h; cases pr <;> cases h
          | some u =>
            rw [hu] at h
            have key : r = v ∧ f' = f ∧ (receiverAt t (.val x) pr (some ((name.splitOn ".").getLastD name))).run P w = .ok x w := by
              cases u <;> cases pr <;> simp at h <;> (obtain ⟨rfl, rfl⟩ := h; refine ⟨rfl, rfl, ?_⟩; simp [receiverAt, Sem.run_bind, run_underlying hu, Result.andThen, Place.get])
            obtain ⟨rfl, rfl, hrec⟩ := key
            refine ⟨rfl, ?_⟩
            have hti : (typeInfo t).run P w = .ok i w := by simp [typeInfo, Sem.run_bind, program, Sem.run, hi, Result.andThen]
            simp only [method, Sem.run_bind, hti, Result.andThen_ok, hm, hpl, follow, Sem.run_pure, hmf, hp, if_true, hrec]

theorem VL.app' : ∀ {a b : List AV} {xs ys : List Value}, VL ρ a xs → VL ρ b ys → VL ρ (a ++ b) (xs ++ ys)
  | [], _, _, _, .nil, k => k
  | _ :: _, _, _, _, .cons h1 h2, k => .cons h1 (VL.app' h2 k)
theorem VL.app {a b : List AV} {xs ys : List Value} (h : VL ρ a xs) (k : VL ρ b ys) : VL ρ (appL a b) (xs ++ ys) := by
  rw [appL_eq]; exact h.app' k

def KnVOk (P : Program) (kn : FuncId → List AV → Option AV) : Prop := ∀ f args v, kn f args = some v → ∀ ρ S w xs, R P ρ S w → VL ρ args xs →
  (callFunc f xs.toArray).run P w = .ok (.enter f xs.toArray) w ∧ CallsIn Fence.wide 0 P f xs.toArray w (CallPost P ρ S w v S) ∧
  (plainFn P f = true → ∀ u, u ≠ .run → CallsDIn Fence.wide 0 P f xs.toArray u w fun e u' w' => u' = u ∧ CallPost P ρ S w v S e w')
def KnXOk (P : Program) (x : FuncId → Option (List AV → AH → Option (AV × AH))) : Prop := ∀ f g, x f = some g → ∃ fn c, P.funcs[f]? = some fn ∧ (fn.name == "runtime.NumGoroutine") = false ∧ fn.body = some c ∧ Nat.ble fn.params.size 2 = false ∧
  ∀ args v S S', g args S = some (v, S') → ∀ ρ w xs, R P ρ S w → VL ρ args xs → CallsIn Fence.wide 0 P f xs.toArray w (CallPost P ρ S w v S')
structure KnOk (P : Program) (kn : Known) : Prop where
  v : KnVOk P kn.v
  x : KnXOk P kn.x
theorem noKnV_ok : KnVOk P fun _ _ => none := fun _ _ _ h => by cases h
theorem callT_sound {tbl : Table} {kn : Known} (hT : TblOk P tbl) (hk : KnOk P kn) : ∀ n, CallSound P (callT P tbl kn n) ∧ DeferSound P (callT P tbl kn n)
  | 0 => ⟨⟨fun h => by simp [callT] at h, fun h => by simp [callT] at h⟩, ⟨fun h => by simp [callT] at h⟩⟩
  | n + 1 => by
    obtain ⟨hcall, hdef⟩ := callT_sound hT hk n
    have hfun : ∀ {g fa fc args S v S' ρ w d}, callT P tbl kn (n + 1) (.fn (.func g) fa fc) args S = some (v, S') → R P ρ S w → CallArg ρ (.fn (.func g) fa fc) args d →
        ∃ cap ys, d.target = .fn (.func g) cap ∧ (invoke d.target d.args).run P w = .ok (.enter g ys) w ∧ CallsIn Fence.wide 0 P g ys w (CallPost P ρ S w v S') ∧
          (plainFn P g = true → ∀ u, u ≠ .run → CallsDIn Fence.wide 0 P g ys u w fun e u' w' => u' = u ∧ CallPost P ρ S w v S' e w') := by
      intro g fa fc args S v S' ρ w d h hR harg
      rcases harg with ⟨f', fa', fc', a', c', xs, e, k1, k2, k3, k4, k5⟩ | ⟨_, _, _, _, _, e, _⟩ | ⟨_, _, e, _⟩
      · cases e
        have hV := k1.app (k3.app k2)
        have hinv : (invoke d.target d.args).run P w = (callFunc g (a' ++ (xs ++ c')).toArray).run P w := by
          rw [k4, k5]
          show (callFunc g _).run P w = _
          simp
        refine ⟨c'.toArray, (a' ++ (xs ++ c')).toArray, k4, ?_⟩
        rw [hinv]
        simp only [callT] at h
        cases hkn : kn.v g (appL fa (appL args fc)) with
        | some v0 =>
          rw [hkn] at h
          cases h
          exact hk.v _ _ _ hkn _ _ _ _ hR hV
        | none =>
          rw [hkn] at h
          simp only at h
          cases hb : tbl g with
          | none =>
            rw [hb] at h
            simp only at h
            cases hx : kn.x g with
            | none => rw [hx] at h; cases h
            | some q =>
              rw [hx] at h
              simp only at h
              obtain ⟨fn, c, h1, h2, h3, h4, h5⟩ := hk.x g q hx
              refine ⟨run_callFunc h1 h2 h3, h5 _ _ _ _ h _ _ _ hR hV, fun hpl => ?_⟩
              unfold plainFn at hpl
              rw [h1] at hpl
              simp only [h3, h4, Bool.and_false] at hpl
              cases hpl
          | some b =>
            rw [hb] at h
            simp only at h
            obtain ⟨fn, vars, h1, h2, rfl⟩ := hT g b hb
            cases hr : run P (callT P tbl kn n) n (denFn P fn vars (appL fa (appL args fc))) S with
            | none => rw [hr] at h; cases h
            | some q =>
              obtain ⟨t, vs, S1⟩ := q
              rw [hr] at h
              cases t with
              | ret =>
                cases h
                obtain ⟨c, hbd, _⟩ := denFn_body hr
                refine ⟨run_callFunc h1 h2 hbd, enter_sound hcall hdef h1 hV hr hR, fun hpl u hu => ?_⟩
                have hd : hasDefer c = false := by
                  unfold plainFn at hpl
                  rw [h1] at hpl
                  simp only [hbd, Bool.and_eq_true] at hpl
                  simpa using hpl.1
                exact deferred_of_post h1 hbd (body_sound hcall hbd hd hV hr hR (.inr trivial))
              | _ => cases h
      · cases e
      · cases e
    refine ⟨⟨fun {f args S r} h => ?_, fun {f args S v S' ρ w d} h hR harg => ?_⟩, ⟨fun {g fa fc args S v S' ρ w d} h hpl hR harg => ?_⟩⟩
    · -- the form
      cases f with
      | fn f a b =>
        cases f with
        | func f => rfl
        | method m =>
          cases a with
          | nil => cases b with
            | nil => rfl
            | cons _ _ => simp [callT] at h
          | cons _ _ => simp [callT] at h
        | _ => simp [callT] at h
      | yd l => rfl
      | _ => simp [callT] at h
    · have hc : callable f = true := by
        cases f with
        | fn f a b =>
          cases f with
          | func f => rfl
          | method m =>
            cases a with
            | nil => cases b with
              | nil => rfl
              | cons _ _ => simp [callT] at h
            | cons _ _ => simp [callT] at h
          | _ => simp [callT] at h
        | yd l => rfl
        | _ => simp [callT] at h
      cases f with
      | fn f fa fc =>
        cases f with
        | func g =>
          obtain ⟨cap, ys, h1, h2, h3, _⟩ := hfun h hR harg
          exact .inl ⟨g, ys, h2, h3⟩
        | method name =>
          have hn : fa = [] ∧ fc = [] := by
            cases fa <;> cases fc <;> simp [callable] at hc
            exact ⟨rfl, rfl⟩
          obtain ⟨rfl, rfl⟩ := hn
          rcases harg with ⟨f', fa', fc', a', c', xs, e, k1, k2, k3, k4, k5⟩ | ⟨_, _, _, _, _, e, _⟩ | ⟨m, xs, e, k1, k2, k3⟩
          · cases e
          · cases e
          · cases e
            simp only [callT] at h
            cases args with
            | nil => cases h
            | cons x rest =>
              cases x with
              | iface t v0 =>
                simp only at h
                cases hm : methodOf P t v0 name with
                | none => rw [hm] at h; cases h
                | some q =>
                  obtain ⟨g, r⟩ := q
                  rw [hm] at h
                  simp only at h
                  cases k1 with
                  | cons q1 q2 =>
                    rename_i x xs
                    cases q1 with
                    | iface q1 =>
                      rename_i y
                      obtain ⟨k, hk⟩ : ∃ k, P.types.size + Made.depth = k + 1 := ⟨P.types.size + 99, rfl⟩
                      obtain ⟨rfl, hrun⟩ := run_method (w := w) (x := y) (n := k) hm
                      have harg' : CallArg ρ (.fn (.func g) [] []) (r :: rest) { target := .fn (.func g) #[], args := (y :: xs).toArray } :=
                        .inl ⟨g, [], [], [], [], y :: xs, rfl, .nil, .nil, .cons q1 q2, rfl, by simp⟩
                      rcases hcall.ok h hR harg' with ⟨g', ys, l1, l2⟩ | ⟨⟨_, e⟩, _⟩
                      · refine .inl ⟨g', ys, ?_, l2⟩
                        rw [k2, k3]
                        rw [← l1]
                        have e1 : (invoke (.fn (.func g) #[]) (y :: xs).toArray).run P w = (callFunc g (y :: xs).toArray).run P w := by simp [invoke]
                        rw [e1]
                        simp [invoke, callMethod, Sem.run_bind, program, Sem.run, hk, hrun, Result.andThen]
                      · cases e
              | _ => cases h
        | _ => simp [callable] at hc
      | yd l =>
        rcases harg with ⟨f', fa', fc', a', c', xs, e, k1, k2, k3, k4, k5⟩ | ⟨l', b, o, len, xs, e, k1, k2, k3, k4⟩ | ⟨_, _, e, _⟩
        · cases e
        · cases e
          simp only [callT] at h
          cases hg : S.get l with
          | none => rw [hg] at h; cases h
          | some ob =>
            rw [hg] at h
            cases ob with
            | loop st pend m body =>
              cases st with
              | ready =>
                simp only at h
                cases hbq : Nat.beq (lenL args) m with
                | false => rw [hbq] at h; cases h
                | true =>
                  rw [hbq] at h
                  simp only at h
                  have hlen : args.length = m := by rw [← lenL_eq]; exact Nat.eq_of_beq_eq_true hbq
                  cases hr : run P (callT P tbl kn n) n (body (.yd l :: args)) S with
                  | none => rw [hr] at h; cases h
                  | some q =>
                    obtain ⟨t, vs, S1⟩ := q
                    rw [hr] at h
                    simp only at h
                    cases hg2 : S1.get l with
                    | none => rw [hg2] at h; cases h
                    | some ob2 =>
                      rw [hg2] at h
                      cases ob2 with
                      | loop st2 p2 m2 b2 =>
                        cases st2 with
                        | busy =>
                          simp only at h
                          have hv : (t = .normal ∧ v = .sc (.bool true) ∧ S' = S1.set l (.loop .ready none m2 b2)) ∨ (t ≠ .normal ∧ v = .sc (.bool false) ∧ S' = S1.set l (.loop .done (some t) m2 b2)) := by
                            cases t with
                            | normal => cases h; exact .inl ⟨rfl, rfl, rfl⟩
                            | _ => cases h; exact .inr ⟨by simp, rfl, rfl⟩
                          obtain ⟨g, tmps, asgn, bd, l1, l2⟩ := round_sound hcall hR k1 hg k2 hlen hr hg2 hv
                          refine .inr ⟨⟨l, rfl⟩, b, g, tmps, asgn, bd, ?_, l2⟩
                          rw [k3, k4]
                          exact l1
                        | _ => cases h
                      | _ => cases h
              | _ => cases h
            | _ => cases h
        · cases e
      | _ => simp [callable] at hc
    · obtain ⟨cap, ys, h1, h2, _, h4⟩ := hfun h hR harg
      exact ⟨cap, ys, h1, h2, h4 hpl⟩
end
end Go.Abs
namespace Go.Abs
noncomputable section
set_option linter.unusedSectionVars false
variable [Tok]
open Go.RowKit Go.WideShapes Go.ChangeShapes
set_option linter.unusedVariables false
variable {P : Program}

theorem below_of_ext {ρ ρ' : Ren} {S S' : AH} {w w' : World} (hno : ∀ id o, S.get id = some o → isRo o = true) (hE : Ext ρ S w ρ' S' w') : Below w.heap.size w w' :=
  ⟨hE.os, hE.tape, hE.output, hE.size, fun k hk => hE.frame k hk fun ⟨id, ob, o, l, h1, h2, _⟩ => by rw [hno id ob h1] at h2; cases h2⟩

theorem trodAll_len {H : Type} {enc : TypeId × Value → H} {W : World} {b : Nat} {sp : Nat → Bool} {hd : Bool} : ∀ {ts : List TypeId} {vs : List Value} {ds : List (DataW H)} {ps : List MemPlace}, DataW.TrodAll enc P W b sp hd ts vs ds ps → ds.length = ts.length
  | [], [], [], _, _ => rfl
  | [], _ :: _, _, _, h => h.elim
  | [], [], _ :: _, _, h => h.elim
  | _ :: _, [], _, _, h => h.elim
  | _ :: _, _ :: _, [], _, h => h.elim
  | t :: ts, v :: vs, d :: ds, ps, h => by
    obtain ⟨p, q, h1, h2, rfl⟩ := h
    simp [trodAll_len h2]
theorem trodAll_stays {H : Type} {enc : TypeId × Value → H} (hl : laidOutB P = true) {W W' : World} {sp : Nat → Bool} : ∀ {ts : List TypeId} {vs : List Value} {ds : List (DataW H)} {ps : List MemPlace},
    ts.all (fun t => P.readableRec t && decide (t < P.types.size)) = true → DataW.TrodAll enc P W 0 (fun _ => true) true ts vs ds ps → (∀ p ∈ ps, W.sameAt W' p) → (∀ p ∈ ps, sp p.block = true) → DataW.TrodAll enc P W' 0 sp true ts vs ds ps
  | [], [], [], _, _, h, _, _ => h
  | [], _ :: _, _, _, _, h, _, _ => h.elim
  | [], [], _ :: _, _, _, h, _, _ => h.elim
  | _ :: _, [], _, _, _, h, _, _ => h.elim
  | _ :: _, _ :: _, [], _, _, h, _, _ => h.elim
  | t :: ts, v :: vs, d :: ds, ps, hr, h, hs, hp => by
    simp only [List.all_cons, Bool.and_eq_true, decide_eq_true_eq] at hr
    obtain ⟨p, q, h1, h2, rfl⟩ := h
    exact ⟨p, q, WideElems.Trod_stays hl hr.1.1 hr.1.2 h1 (fun x hx => hs x (by simp [hx])) (fun x hx => hp x (by simp [hx])),
      trodAll_stays hl hr.2 h2 (fun x hx => hs x (by simp [hx])) (fun x hx => hp x (by simp [hx])), rfl⟩

def boolRes (P : Program) (f : Func) : Bool := match f.resultTypes.toList with
  | [t] => match P.underlying t with
    | some .bool => true
    | _ => false
  | _ => false
theorem boolRes_some {f : Func} (h : boolRes P f = true) : ∃ t, f.resultTypes = #[t] ∧ P.underlying t = some .bool := by
  unfold boolRes at h
  split at h
  · rename_i t ht
    split at h
    · exact ⟨t, Array.toList_inj.1 ht, by assumption⟩
    · cases h
  · cases h
theorem law_post {H : Type} {enc : TypeId × Value → H} {f : Func} {s : ChangeSpec} {apart fresh handsOn again : Bool} {W W' : World} {args : Array Value} {ds gs : List (DataW H)} {before : List MemPlace}
    (hl : laidOutB P = true) (hres0 : boolRes P f = true) (hread : f.params.toList.all (fun t => P.readableRec t && decide (t < P.types.size)) = true) (hvars : s.vars = [])
    (hfn : ∀ ds : List (DataW H), ds.length = f.params.size → s.fn H ds = { results := [.lit (.bool true)], args := ds })
    (hW : DataW.Whole enc P f.params.toList s.vars apart W args.toList ds gs before) (hb : Below W.heap.size W W') : s.post enc P f apart fresh handsOn again W args (.bool true) W' := by
  have hW0 := hW
  obtain ⟨tb, hrt, htb⟩ := boolRes_some hres0
  obtain ⟨p, q, hA, hV, rfl, hfz, hnd⟩ := hW
  rw [hvars] at hV
  obtain ⟨rfl, rfl⟩ := trodVars_none hV
  have hlen : ds.length = f.params.size := by have := trodAll_len hA; simpa using this
  have hlt : ∀ x ∈ p, x.block < W.heap.size := fun x hx => hW0.lt x (by simp [hx])
  have hargs : ∀ sp : Nat → Bool, (∀ x ∈ p ++ [], sp x.block = true) → DataW.TrodAll enc P W' 0 sp true f.params.toList args.toList ds p := fun sp hsp =>
    trodAll_stays hl hread hA (fun x hx => hb.same (hlt x hx)) (fun x hx => hsp x (by simp [hx]))
  have hfn' : s.fn H (ds ++ []) = { results := [.lit (.bool true)], args := ds } := by rw [List.append_nil]; exact hfn ds hlen
  have hres : ∀ (b : Nat) (sp : Nat → Bool) (hd : Bool), DataW.TrodAll enc P W' b sp hd f.resultTypes.toList ((Value.bool true).resultList f.resultTypes.size) (s.fn H (ds ++ [])).results [] := fun b sp hd => by
    rw [hfn', hrt]
    exact trodAll_mk1 (shut_bool htb true)
  have hok : ∀ (j : Nat) (t : TypeId) (r : Value), f.resultTypes[j]? = some t → ((Value.bool true).resultList f.resultTypes.size)[j]? = some r → Value.okWide P W' .any 0 t r := by
    intro j t r h1 h2
    rw [hrt] at h1 h2
    cases j with
    | zero =>
      simp only [List.getElem?_toArray, List.getElem?_cons_zero, Option.some.injEq] at h1
      simp only [Value.resultList] at h2
      simp at h2
      subst h1 h2
      exact okWide_bool_mk htb true
    | succ j => simp at h1
  have hlt' : ∀ x ∈ p ++ [], x.block < W.heap.size := fun x hx => hW0.lt x (by simpa using hx)
  have hold : ∀ x ∈ p ++ [], (fun b => decide (b < W.heap.size)) x.block = true := fun x hx => by simpa using hlt' x hx
  refine ⟨ds, [], p ++ [], [], p, [], hW0, hres _ _ _, by rw [hfn']; exact hargs _ hold, by rw [hvars, hfn']; exact (rfl : DataW.TrodVars enc P W' _ [] [] []), World.keptBut_mono (fun x hx => ⟨hx, Or.inr (by simpa using hx)⟩) (hb.frame (· ∈ p ++ [])), fun _ => ?_⟩
  refine ⟨hok, _, [], ([] ++ p) ++ [], ⟨[] ++ p, [], trodAll_append (hargs _ (fun _ _ => rfl)) (hres _ _ _), by rw [hvars]; exact (rfl : DataW.TrodVars enc P W' _ [] [] []), rfl, ?_, ?_⟩, ?_⟩
  · intro b off hp
    have hin : MemPlace.cell b off ∈ p ++ [] := by simpa using hp
    rw [hb.frozen (hlt' _ hin)]
    exact hfz b off (by simpa using hin)
  · intro ha
    have := hnd ha
    simpa using this
  · intro x hx _
    simpa using hx
end
end Go.Abs
namespace Go.Abs
noncomputable section
set_option linter.unusedSectionVars false
variable [Tok]
open Go.RowKit Go.WideShapes Go.ChangeShapes
variable {P : Program}

/-! ### the table -/
def T.All {α : Type} (p : Nat → α → Prop) : T α → Nat → Nat → Prop
  | .e, _, _ => True
  | .n l v r, a, b => T.All p l (a + b) (2 * b) ∧ (match v with | some x => p a x | none => True) ∧ T.All p r (a + 2 * b) (2 * b)
theorem T.All.get {α : Type} {p : Nat → α → Prop} : ∀ {t : T α} {a b : Nat}, T.All p t a b → ∀ {k : Nat} {x : α}, T.get t k = some x → p (a + b * k) x
  | .e, a, b, h, k, x, hx => by simp [T.get] at hx
  | .n l v r, a, b, h, k, x, hx => by
    obtain ⟨h1, h2, h3⟩ := h
    unfold T.get at hx
    cases k with
    | zero =>
      simp only at hx
      subst hx
      simpa using h2
    | succ k =>
      simp only at hx
      have hk := Nat.div_add_mod k 2
      split at hx
      · rename_i hm
        have hm' : k % 2 = 0 := Nat.eq_of_beq_eq_true hm
        have := h1.get hx
        have e : a + b + 2 * b * (k / 2) = a + b * (k + 1) := by
          have : k = 2 * (k / 2) := by omega
          generalize k / 2 = j at this ⊢
          subst this
          rw [Nat.mul_add, Nat.mul_comm 2 b, Nat.mul_assoc]; omega
        exact e ▸ this
      · rename_i hm
        have hm' : k % 2 = 1 := by
          have : k % 2 ≠ 0 := fun e => hm (by rw [show Nat.mod k 2 = k % 2 from rfl, e]; rfl)
          omega
        have := h3.get hx
        have e : a + 2 * b + 2 * b * (k / 2) = a + b * (k + 1) := by
          have : k = 2 * (k / 2) + 1 := by omega
          generalize k / 2 = j at this ⊢
          subst this
          rw [show b * (2 * j + 1 + 1) = 2 * b * j + 2 * b by
            rw [Nat.mul_add, Nat.mul_add, Nat.mul_comm 2 b, Nat.mul_assoc]; omega]
          omega
        exact e ▸ this
def EntOk (P : Program) (f : Nat) (b : List AV → AC) : Prop := ∃ fn vars, P.funcs[f]? = some fn ∧ (fn.name == "runtime.NumGoroutine") = false ∧ b = denFn P fn vars
theorem tblOk_of {t : T (List AV → AC)} (h : T.All (EntOk P) t 0 1) : TblOk P fun f => T.get t f := fun f b hb => by
  have := h.get hb
  rw [Nat.zero_add, Nat.one_mul] at this
  exact this

/-! ### a statement, out of a run of the abstract machine -/
def isTrue : Option (AV × AH) → Bool
  | some (.sc (.bool true), _) => true
  | _ => false
theorem isTrue_some {r : Option (AV × AH)} (h : isTrue r = true) : ∃ S', r = some (.sc (.bool true), S') := by
  unfold isTrue at h
  split at h
  · exact ⟨_, rfl⟩
  · cases h
theorem R.nothing (P : Program) (w : World) : R P (fun _ => none) ⟨.e, 0⟩ w where
  objs := fun h => by simp [AH.get, getK] at h
  inj := fun h => by simp [AH.get, getK] at h
  dom := fun h => by cases h
  blk := fun h => by cases h
  wf := fun h => by simp [AH.get, getK] at h

theorem calls_of_run {tbl : Table} {kn : Known} (hT : TblOk P tbl) (hk : KnOk P kn) {n : Nat} {f : FuncId} {as : List AV} {S : AH} {ρ : Ren} {W : World} {args : Array Value}
    (hrun : isTrue (callT P tbl kn n (.fn (.func f) [] []) as S) = true) (hR : R P ρ S W) (hV : VL ρ as args.toList) (hro : ∀ id o, S.get id = some o → isRo o = true)
    (hent : ∀ w, (callFunc f args).run P w = .ok (.enter f args) w) :
    Calls P f args W fun e W' => e = .returned (.bool true) ∧ Below W.heap.size W W' := by
  obtain ⟨S', hrun⟩ := isTrue_some hrun
  have harg : CallArg ρ (.fn (.func f) [] []) as { target := .fn (.func f) #[], args := args } := .inl ⟨f, [], [], [], [], args.toList, rfl, .nil, .nil, hV, rfl, by simp⟩
  rcases (callT_sound hT hk n).1.ok hrun hR harg with ⟨g, ys, h1, h2⟩ | ⟨⟨_, e⟩, _⟩
  · have hn : (invoke (.fn (.func f) #[]) args).run P W = (callFunc f args).run P W := by simp [invoke]
    rw [hn, hent] at h1
    cases h1
    refine (callsIn_wide.1 h2).mono fun e W' q => ?_
    obtain ⟨x, ρ', rfl, q1, q2, q3⟩ := q
    exact ⟨by rw [q1.sc_inv.1], below_of_ext hro q3⟩
  · cases e

theorem ent_of {f : FuncId} {fn : Func} (hf : P.funcs[f]? = some fn) (hn : (fn.name == "runtime.NumGoroutine") = false) (hb : fn.body.isSome = true) (args : Array Value) (w : World) : (callFunc f args).run P w = .ok (.enter f args) w := by
  cases h : fn.body with
  | none => rw [h] at hb; cases hb
  | some c => exact run_callFunc hf hn h

/-! ### closed calls, once and for all -/
theorem R.grown {ρ : Ren} {S : AH} {w w' : World} (h : R P ρ S w) (hb : Below w.heap.size w w') : R P ρ S w' ∧ Ext ρ S w ρ S w' :=
  ⟨⟨fun h1 h2 => (h.objs h1 h2).mono (Ren.le_refl _) (hb.block _ (h.blk h2)), h.inj, h.dom, fun h1 => Nat.lt_of_lt_of_le (h.blk h1) hb.size, h.wf⟩,
   ⟨Ren.le_refl _, Nat.le_refl _, fun id x h1 h2 => by (rw [h1] at h2; cases h2), fun _ _ _ => rfl, hb.os, hb.tape, hb.output, hb.size, fun b h1 _ => hb.block b h1, fun _ _ h => h⟩⟩
def knV : List (FuncId × Value) → FuncId → List AV → Option AV
  | [], _, _ => none
  | (f, v) :: r, g, as => match Nat.beq g f with
    | true => match as with
      | [] => some (.sc v)
      | _ => none
    | false => knV r g as
theorem knV_ok {tbl : Table} {kn : Known} (hT : TblOk P tbl) (hk : KnOk P kn) : ∀ {l : List (FuncId × Value)}, (∀ x ∈ l, (∃ n S', callT P tbl kn n (.fn (.func x.1) [] []) [] ⟨.e, 0⟩ = some (.sc x.2, S')) ∧ ∀ w, (callFunc x.1 #[]).run P w = .ok (.enter x.1 #[]) w) → KnVOk P (knV l)
  | [], _ => fun _ _ _ h => by cases h
  | (f, v) :: r, hl => by
    intro g as u h ρ S w xs hR hV
    unfold knV at h
    cases hb : Nat.beq g f with
    | false =>
      rw [hb] at h
      exact knV_ok hT hk (l := r) (fun x hx => hl x (by simp [hx])) _ _ _ h _ _ _ _ hR hV
    | true =>
      have e := Nat.eq_of_beq_eq_true hb
      subst e
      rw [hb] at h
      cases as with
      | cons _ _ => cases h
      | nil =>
        cases h
        cases hV
        obtain ⟨⟨n, S', hrun⟩, hent⟩ := hl (g, v) (by simp)
        have harg : CallArg (fun _ => none) (.fn (.func g) [] []) [] { target := .fn (.func g) #[], args := #[] } := .inl ⟨g, [], [], [], [], [], rfl, .nil, .nil, .nil, rfl, rfl⟩
        have hn : (invoke (.fn (.func g) #[]) #[]).run P w = (callFunc g #[]).run P w := by simp [invoke]
        have post : ∀ e w', CallPost P (fun _ => none) ⟨.e, 0⟩ w (.sc v) S' e w' → CallPost P ρ S w (.sc v) S e w' := by
          rintro e w' ⟨x, ρ', rfl, q1, q2, q3⟩
          obtain ⟨h1, h2⟩ := hR.grown (below_of_ext (fun id o h => by simp [AH.get, getK] at h) q3)
          obtain ⟨rfl, hs⟩ := q1.sc_inv
          exact ⟨_, ρ, rfl, .sc hs, h1, h2⟩
        refine ⟨hent w, ?_, fun hpl u hu => ?_⟩
        · rcases (callT_sound hT hk n).1.ok hrun (R.nothing P w) harg with ⟨g', ys, h1, h2⟩ | ⟨⟨_, e⟩, _⟩
          · rw [hn, hent] at h1
            cases h1
            exact h2.mono (post)
          · cases e
        · obtain ⟨cap, ys, h0, h1, h2⟩ := (callT_sound hT hk n).2.ok hrun hpl (R.nothing P w) harg
          rw [hn, hent] at h1
          cases h1
          exact (h2 u hu).mono fun e u' w' q => ⟨q.1, post e w' q.2⟩
end
end Go.Abs
namespace Go.Abs
noncomputable section
set_option linter.unusedVariables false

/-! ### the abstract machine, without counting -/
structure Mach where
  P : Program
  tbl : Table
  kn : Known
abbrev Post := Tag → List AV → AH → Prop
def wp (M : Mach) (x : AC) (S : AH) (Q : Post) : Prop := ∃ t vs S', (∃ n0, ∀ n, n0 ≤ n → run M.P (callT M.P M.tbl M.kn n) n x S = some (t, vs, S')) ∧ Q t vs S'
def wpC (M : Mach) (f : AV) (args : List AV) (S : AH) (Q : AV → AH → Prop) : Prop := ∃ v S', (∃ n0, ∀ n, n0 ≤ n → callT M.P M.tbl M.kn n f args S = some (v, S')) ∧ Q v S'
def wpL (M : Mach) (body : List AV → AC) (vs : List AV) (S : AH) (Q : Post) : Prop :=
  ∃ t vs' S', (∃ n0, ∀ n k, n0 ≤ n → n0 ≤ k → iter (fun vs => run M.P (callT M.P M.tbl M.kn n) n (body vs)) k vs S = some (t, vs', S')) ∧ Q t vs' S'

section
variable {M : Mach} {S S1 : AH} {Q : Post}

theorem wp_mono {x : AC} {Q' : Post} (h : wp M x S Q) (hm : ∀ t vs S', Q t vs S' → Q' t vs S') : wp M x S Q' :=
  let ⟨t, vs, S', h1, h2⟩ := h; ⟨t, vs, S', h1, hm _ _ _ h2⟩
theorem wpC_mono {f : AV} {args : List AV} {Q Q' : AV → AH → Prop} (h : wpC M f args S Q) (hm : ∀ v S', Q v S' → Q' v S') : wpC M f args S Q' :=
  let ⟨v, S', h1, h2⟩ := h; ⟨v, S', h1, hm _ _ h2⟩
theorem wp_ret {t : Tag} {vs : List AV} (h : Q t vs S) : wp M (.ret t vs) S Q := ⟨t, vs, S, ⟨0, fun _ _ => rfl⟩, h⟩
theorem wp_op {o : AOp} {k : AV → AC} {v : AV} (he : evalOp M.P o S = some (v, S1)) (h : wp M (k v) S1 Q) : wp M (.op o k) S Q := by
  obtain ⟨t, vs, S', ⟨n0, h1⟩, h2⟩ := h
  exact ⟨t, vs, S', ⟨n0, fun n hn => by rw [run_op, he]; exact h1 n hn⟩, h2⟩
theorem wp_gop_not {g : AV} {b : Bool} {o : AOp} {k : AV → AC} (hg : gIs g b = some false) (h : wp M (k uv) S Q) : wp M (.gop g b o k) S Q := by
  obtain ⟨t, vs, S', ⟨n0, h1⟩, h2⟩ := h
  exact ⟨t, vs, S', ⟨n0, fun n hn => by rw [run_gop]; unfold runGop; rw [hg]; exact h1 n hn⟩, h2⟩
theorem wp_chk {o : AOp} {v v' : AV} {k : AC} (he : evalRead M.P S o = some v') (hb : v'.beq v = true) (h : wp M k S Q) : wp M (.chk o v k) S Q := by
  obtain ⟨t, vs, S', ⟨n0, h1⟩, h2⟩ := h
  exact ⟨t, vs, S', ⟨n0, fun n hn => by show runChk M.P o v _ S = _; unfold runChk; rw [he]; simp only [hb]; exact h1 n hn⟩, h2⟩
theorem wp_ite {b : Bool} {x y : AC} (h : wp M (if b then x else y) S Q) : wp M (.ite (.sc (.bool b)) x y) S Q := by
  obtain ⟨t, vs, S', ⟨n0, h1⟩, h2⟩ := h
  refine ⟨t, vs, S', ⟨n0, fun n hn => ?_⟩, h2⟩
  have := h1 n hn
  rw [run_ite]
  cases b <;> exact this
theorem wp_call {f : AV} {args : List AV} {k : AV → AC} (h : wpC M f args S fun v S' => wp M (k v) S' Q) : wp M (.call f args k) S Q := by
  obtain ⟨v, S1, ⟨n0, h1⟩, t, vs, S', ⟨n1, h2⟩, h3⟩ := h
  exact ⟨t, vs, S', ⟨max n0 n1, fun n hn => by rw [run_call, h1 n (by omega)]; exact h2 n (by omega)⟩, h3⟩
theorem wp_gcall_not {g : AV} {b : Bool} {f : AV} {args : List AV} {k : AV → AC} (hg : gIs g b = some false) (h : wp M (k uv) S Q) : wp M (.gcall g b f args k) S Q := by
  obtain ⟨t, vs, S', ⟨n0, h1⟩, h2⟩ := h
  exact ⟨t, vs, S', ⟨n0, fun n hn => by rw [run_gcall]; unfold runGcall; rw [hg]; exact h1 n hn⟩, h2⟩

def boundTo (M : Mach) (id : Option Nat) (k : List AV → AC) (outs : List AV → List AV) (Q : Post) : Post := fun t vs S' =>
  match t with
  | .normal => wp M (k vs) S' Q
  | .exit i => match id with
    | some j => match Nat.beq j i with
      | true => wp M (k vs) S' Q
      | false => Q (.exit i) (outs vs) S'
    | none => Q (.exit i) (outs vs) S'
  | t => Q t (outs vs) S'
theorem wp_bind {m : AC} {id : Option Nat} {k : List AV → AC} {outs : List AV → List AV} (h : wp M m S (boundTo M id k outs Q)) : wp M (.bind m id k outs) S Q := by
  obtain ⟨t, vs, S1, ⟨n0, h1⟩, h2⟩ := h
  have go : wp M (k vs) S1 Q → (∀ n, run M.P (callT M.P M.tbl M.kn n) n m S = some (t, vs, S1) → run M.P (callT M.P M.tbl M.kn n) n (.bind m id k outs) S = run M.P (callT M.P M.tbl M.kn n) n (k vs) S1) → wp M (.bind m id k outs) S Q := by
    rintro ⟨t', vs', S', ⟨n1, h3⟩, h4⟩ he
    exact ⟨t', vs', S', ⟨max n0 n1, fun n hn => by rw [he n (h1 n (by omega))]; exact h3 n (by omega)⟩, h4⟩
  have out : ∀ t', Q t' (outs vs) S1 → (∀ n, run M.P (callT M.P M.tbl M.kn n) n m S = some (t, vs, S1) → run M.P (callT M.P M.tbl M.kn n) n (.bind m id k outs) S = some (t', outs vs, S1)) → wp M (.bind m id k outs) S Q := by
    intro t' hq he
    exact ⟨t', outs vs, S1, ⟨n0, fun n hn => he n (h1 n hn)⟩, hq⟩
  cases t with
  | normal => exact go h2 fun n hn => by rw [run_bind']; unfold runBind; rw [hn]
  | exit i =>
    cases id with
    | none => exact out _ h2 fun n hn => by rw [run_bind']; unfold runBind; rw [hn]
    | some j =>
      simp only [boundTo] at h2
      cases hb : Nat.beq j i with
      | true => rw [hb] at h2; exact go h2 fun n hn => by rw [run_bind']; unfold runBind; rw [hn]; simp only [hb]
      | false => rw [hb] at h2; exact out _ h2 fun n hn => by rw [run_bind']; unfold runBind; rw [hn]; simp only [hb]
  | goto l => exact out _ h2 fun n hn => by rw [run_bind']; unfold runBind; rw [hn]
  | ret => exact out _ h2 fun n hn => by rw [run_bind']; unfold runBind; rw [hn]
theorem wp_fin {m : AC} {k : List AV → AC} (h : wp M m S fun t vs S' => (t = .normal ∨ t = .ret) ∧ wp M (k vs) S' Q) : wp M (.fin m k) S Q := by
  obtain ⟨t, vs, S1, ⟨n0, h1⟩, ht, t', vs', S', ⟨n1, h2⟩, h3⟩ := h
  refine ⟨t', vs', S', ⟨max n0 n1, fun n hn => ?_⟩, h3⟩
  rw [run_fin]; unfold runFin; rw [h1 n (by omega)]
  rcases ht with rfl | rfl <;> exact h2 n (by omega)
theorem wp_loop {init : List AV} {body : List AV → AC} {outs : List AV → List AV} (h : wpL M body init S fun t vs S' => Q t (outs vs) S') : wp M (.loop init body outs) S Q := by
  obtain ⟨t, vs, S1, ⟨n0, h1⟩, h2⟩ := h
  exact ⟨t, outs vs, S1, ⟨n0, fun n hn => by rw [run_loop]; unfold runLoop; rw [h1 n n hn hn]⟩, h2⟩
theorem wpL_step {body : List AV → AC} {vs : List AV} (h : wp M (body vs) S fun t vs1 S1 => (t = .normal ∧ wpL M body vs1 S1 Q) ∨ (t ≠ .normal ∧ Q t vs1 S1)) : wpL M body vs S Q := by
  obtain ⟨t, vs1, S1, ⟨n0, h1⟩, h2⟩ := h
  rcases h2 with ⟨rfl, t', vs', S', ⟨n1, h3⟩, h4⟩ | ⟨ht, hq⟩
  · refine ⟨t', vs', S', ⟨max n0 n1 + 1, fun n k hn hk => ?_⟩, h4⟩
    obtain ⟨k, rfl⟩ : ∃ j, k = j + 1 := ⟨k - 1, by omega⟩
    simp only [iter]
    rw [h1 n (by omega)]
    exact h3 n k (by omega) (by omega)
  · refine ⟨t, vs1, S1, ⟨n0 + 1, fun n k hn hk => ?_⟩, hq⟩
    obtain ⟨k, rfl⟩ : ∃ j, k = j + 1 := ⟨k - 1, by omega⟩
    simp only [iter]
    rw [h1 n (by omega)]
    cases t with
    | normal => exact absurd rfl ht
    | _ => rfl
theorem wpL_inv {body : List AV → AC} (I : Nat → List AV → AH → Prop)
    (hr : ∀ m vs S, I m vs S → wp M (body vs) S fun t vs1 S1 => (t = .normal ∧ ∃ m', m' < m ∧ I m' vs1 S1) ∨ (t ≠ .normal ∧ Q t vs1 S1)) :
    ∀ (m : Nat) {vs : List AV} {S : AH}, I m vs S → wpL M body vs S Q := by
  intro m
  induction m using Nat.strongRecOn with
  | _ m ih =>
    intro vs S h
    refine wpL_step (wp_mono (hr m vs S h) fun t vs1 S1 q => ?_)
    rcases q with ⟨ht, m', hlt, hI⟩ | q
    · exact .inl ⟨ht, ih m' hlt hI⟩
    · exact .inr q

theorem wp_start {l : Nat} {k : AC} {pend : Option Tag} {n : Nat} {b : List AV → AC} (hg : S.get l = some (.loop .ready pend n b)) (h : wp M k (S.set l (.loop .busy pend n b)) Q) : wp M (.start (.yd l) k) S Q := by
  obtain ⟨t, vs, S', ⟨n0, h1⟩, h2⟩ := h
  exact ⟨t, vs, S', ⟨n0, fun n hn => by rw [run_start]; unfold runStart; simp only [hg]; exact h1 n hn⟩, h2⟩

theorem wp_rng {n : Nat} {f : AV} {body : List AV → AC} {k : AC} {outs : List AV} (hf : ∀ i, f ≠ .yd i)
    (h : wpC M f [.yd S.next] (S.new (.loop .ready none n body)) fun _ S' => ∃ st pend m b, S'.get S.next = some (.loop st pend m b) ∧ st ≠ .busy ∧
      match pend with
      | none => wp M k (S'.set S.next (.loop .exhausted pend m b)) Q
      | some t => Q t outs (S'.set S.next (.loop .exhausted pend m b))) : wp M (.rng n f body k outs) S Q := by
  obtain ⟨v, S1, ⟨n0, h1⟩, st, pend, m, b, hg, hst, h2⟩ := h
  have key : ∀ n', n0 ≤ n' → run M.P (callT M.P M.tbl M.kn n') n' (.rng n f body k outs) S = rngEnd (run M.P (callT M.P M.tbl M.kn n') n' k) outs (S1.set S.next (.loop .exhausted pend m b)) pend := by
    intro n' hn
    rw [run_rng]
    have e := h1 n' hn
    cases f with
    | yd i => exact absurd rfl (hf i)
    | _ => unfold runRng; simp only [e, hg]; cases st <;> cases pend <;> first | exact absurd rfl hst | rfl
  cases pend with
  | none =>
    obtain ⟨t, vs, S', ⟨n1, h3⟩, h4⟩ := h2
    exact ⟨t, vs, S', ⟨max n0 n1, fun n' hn => by rw [key n' (by omega)]; exact h3 n' (by omega)⟩, h4⟩
  | some t => exact ⟨t, outs, _, ⟨n0, fun n' hn => key n' hn⟩, h2⟩

/-! ### calls -/
theorem wpC_fn {f : FuncId} {fa fc args : List AV} {b : List AV → AC} {Q : AV → AH → Prop} (hk : M.kn f (fa ++ (args ++ fc)) = none) (hb : M.tbl f = some b)
    (h : wp M (b (fa ++ (args ++ fc))) S fun t vs S' => t = .ret ∧ Q (oneOf vs) S') : wpC M (.fn (.func f) fa fc) args S Q := by
  obtain ⟨t, vs, S', ⟨n0, h1⟩, rfl, h2⟩ := h
  refine ⟨oneOf vs, S', ⟨n0 + 1, fun n hn => ?_⟩, h2⟩
  obtain ⟨n, rfl⟩ : ∃ j, n = j + 1 := ⟨n - 1, by omega⟩
  simp only [callT, appL_eq, hk, hb, h1 n (by omega)]
theorem wpC_kn {f : FuncId} {fa fc args : List AV} {v : AV} {Q : AV → AH → Prop} (hk : M.kn f (fa ++ (args ++ fc)) = some v) (h : Q v S) : wpC M (.fn (.func f) fa fc) args S Q := by
  refine ⟨v, S, ⟨1, fun n hn => ?_⟩, h⟩
  obtain ⟨n, rfl⟩ : ∃ j, n = j + 1 := ⟨n - 1, by omega⟩
  simp only [callT, appL_eq, hk]
theorem wpC_method {name : String} {t : TypeId} {v r : AV} {f : FuncId} {rest : List AV} {Q : AV → AH → Prop} (hm : methodOf M.P t v name = some (f, r)) (h : wpC M (.fn (.func f) [] []) (r :: rest) S Q) :
    wpC M (.fn (.method name) [] []) (.iface t v :: rest) S Q := by
  obtain ⟨u, S', ⟨n0, h1⟩, h2⟩ := h
  refine ⟨u, S', ⟨n0 + 1, fun n hn => ?_⟩, h2⟩
  obtain ⟨n, rfl⟩ : ∃ j, n = j + 1 := ⟨n - 1, by omega⟩
  simp only [callT, hm]
  exact h1 n (by omega)
theorem wpC_yd {l : Nat} {args : List AV} {pend : Option Tag} {m : Nat} {body : List AV → AC} {Q : AV → AH → Prop} (hg : S.get l = some (.loop .ready pend m body)) (hl : args.length = m)
    (h : wp M (body (.yd l :: args)) S fun t _ S' => ∃ p m' b', S'.get l = some (.loop .busy p m' b') ∧
      match t with
      | .normal => Q (.sc (.bool true)) (S'.set l (.loop .ready none m' b'))
      | t => Q (.sc (.bool false)) (S'.set l (.loop .done (some t) m' b'))) : wpC M (.yd l) args S Q := by
  obtain ⟨t, vs, S', ⟨n0, h1⟩, p, m', b', hg2, h2⟩ := h
  have hb : Nat.beq (lenL args) m = true := by rw [lenL_eq, hl]; exact Nat.beq_refl m
  cases t with
  | normal =>
    refine ⟨_, _, ⟨n0 + 1, fun n hn => ?_⟩, h2⟩
    obtain ⟨n, rfl⟩ : ∃ j, n = j + 1 := ⟨n - 1, by omega⟩
    simp only [callT, hg, hb, h1 n (by omega), hg2]
  | _ =>
    refine ⟨_, _, ⟨n0 + 1, fun n hn => ?_⟩, h2⟩
    obtain ⟨n, rfl⟩ : ∃ j, n = j + 1 := ⟨n - 1, by omega⟩
    simp only [callT, hg, hb, h1 n (by omega), hg2]

theorem wpC_true {f : FuncId} {as : List AV} (h : wpC M (.fn (.func f) [] []) as S fun v _ => v = .sc (.bool true)) : ∃ n, isTrue (callT M.P M.tbl M.kn n (.fn (.func f) [] []) as S) = true := by
  obtain ⟨v, S', ⟨n0, h1⟩, rfl⟩ := h
  exact ⟨n0, by rw [h1 n0 (Nat.le_refl _)]; rfl⟩
end
end
end Go.Abs
namespace Go.Abs
noncomputable section
set_option linter.unusedVariables false

/-! ### what is known of memory, as a function goes along -/
structure Grows (B S : AH) : Prop where
  next : B.next ≤ S.next
  old : ∀ id, id < B.next → S.get id = B.get id
theorem Grows.refl (S : AH) : Grows S S := ⟨Nat.le_refl _, fun _ _ => rfl⟩
theorem Grows.trans {A B C : AH} (h : Grows A B) (k : Grows B C) : Grows A C := ⟨Nat.le_trans h.next k.next, fun id hi => by rw [k.old id (Nat.lt_of_lt_of_le hi h.next), h.old id hi]⟩
theorem Grows.new (S : AH) (o : AO) : Grows S (S.new o) := ⟨by simp [AH.new], fun id hi => by rw [AH.get_new, if_neg (by omega)]⟩

def vids : AV → List Nat
  | .sl id _ _ _ => [id]
  | .op id _ _ _ _ => [id]
  | _ => []

def slForm (v : AV) (es n id off : Nat) (c : List AV) : Prop :=
  (∃ cap, n ≤ cap ∧ off + cap * es ≤ c.length ∧ v = .sl id off n cap) ∨ (∃ cmin, n ≤ cmin ∧ off + cmin * es ≤ c.length ∧ v = .op id off n cmin es)
theorem slForm.ids {v : AV} {es n id off : Nat} {c : List AV} (h : slForm v es n id off c) : vids v = [id] := by
  rcases h with ⟨_, _, _, rfl⟩ | ⟨_, _, _, rfl⟩ <;> rfl
def slW (S : AH) (v : AV) (es : Nat) (L : List (List AV)) : Prop :=
  (v = .sc (.slice none 0 0) ∧ L = []) ∨ ∃ id off c, slForm v es L.length id off c ∧ S.get id = some (.row c) ∧ (c.drop off).take (L.length * es) = L.flatten ∧ ∀ x ∈ L, x.length = es
inductive Own where
  | obj (id : Nat) (o : AO)
  | sl (v : AV) (es : Nat) (L : List (List AV))
def Own.ids : Own → List Nat
  | .obj id _ => [id]
  | .sl v _ _ => vids v
def Own.holds (S : AH) : Own → Prop
  | .obj id o => S.get id = some o
  | .sl v es L => slW S v es L

inductive Fct where
  | pt (id off : Nat) (cs : List AV)
  | sl (v : AV) (es : Nat) (L : List (List AV))
  | ob (id : Nat) (o : AO)
def Fct.ids : Fct → List Nat
  | .pt id _ _ => [id]
  | .sl v _ _ => vids v
  | .ob id _ => [id]
def slOk (S : AH) (v : AV) (es : Nat) (L : List (List AV)) : Prop :=
  (v = .sc (.slice none 0 0) ∧ L = []) ∨ ∃ id off c, slForm v es L.length id off c ∧
    S.cells? id = some c ∧ (c.drop off).take (L.length * es) = L.flatten ∧ ∀ x ∈ L, x.length = es
def Fct.holds (S : AH) : Fct → Prop
  | .pt id off cs => ∃ c, S.cells? id = some c ∧ off + cs.length ≤ c.length ∧ (c.drop off).take cs.length = cs
  | .sl v es L => slOk S v es L
  | .ob id o => S.get id = some o

structure Cx (B : AH) (M : List Nat) (S : AH) (own : List Own) (ro : List Fct) : Prop where
  next : B.next ≤ S.next
  old : ∀ id, id < B.next → id ∉ M → S.get id = B.get id
  oh : ∀ x ∈ own, x.holds S
  oi : ∀ x ∈ own, ∀ id ∈ x.ids, id < S.next ∧ (id < B.next → id ∈ M)
  od : own.Pairwise fun x y => ∀ id ∈ x.ids, id ∉ y.ids
  rh : ∀ φ ∈ ro, φ.holds S
  ri : ∀ φ ∈ ro, ∀ id ∈ φ.ids, id < S.next ∧ ∀ x ∈ own, id ∉ x.ids

theorem cells_same {S S1 : AH} {id : Nat} (h : S1.get id = S.get id) : S1.cells? id = S.cells? id := by unfold AH.cells?; rw [h]

theorem Own.holds_same {S S1 : AH} {x : Own} (h : ∀ id ∈ x.ids, S1.get id = S.get id) (hx : x.holds S) : x.holds S1 := by
  cases x with
  | obj id o => exact (h id (by simp [Own.ids])).trans hx
  | sl v es L =>
    rcases hx with hx | ⟨id, off, c, h0, h1, h2⟩
    · exact .inl hx
    · exact .inr ⟨id, off, c, h0, (h id (by simp [Own.ids, h0.ids])).trans h1, h2⟩
theorem slOk_same {S S1 : AH} {v : AV} {es : Nat} {L : List (List AV)} (h : ∀ id ∈ vids v, S1.get id = S.get id) (hx : slOk S v es L) : slOk S1 v es L := by
  rcases hx with hx | ⟨id, off, c, h1, h2, h3⟩
  · exact .inl hx
  · refine .inr ⟨id, off, c, h1, ?_, h3⟩
    rw [cells_same (h id (by simp [h1.ids]))]; exact h2
theorem Fct.holds_same {S S1 : AH} {x : Fct} (h : ∀ id ∈ x.ids, S1.get id = S.get id) (hx : x.holds S) : x.holds S1 := by
  cases x with
  | pt id off cs =>
    obtain ⟨c, h1, h2⟩ := hx
    exact ⟨c, by rw [cells_same (h id (by simp [Fct.ids]))]; exact h1, h2⟩
  | sl v es L => exact slOk_same h hx
  | ob id o => exact (h id (by simp [Fct.ids])).trans hx

section
variable {B S S1 : AH} {M : List Nat} {own : List Own} {ro : List Fct}

theorem Cx.step (H : Cx B M S own ro) {i : Nat} {x x' : Own} (hi : own[i]? = some x) (hnext : S.next ≤ S1.next) (hsame : ∀ id, id < S.next → id ∉ x.ids → S1.get id = S.get id) (hx : x'.holds S1)
    (hids : ∀ id ∈ x'.ids, id < S1.next ∧ (id ∈ x.ids ∨ S.next ≤ id)) : Cx B M S1 (own.set i x') ro := by
  have hmem : x ∈ own := List.mem_of_getElem? hi
  have hpair := H.od
  have hoth : ∀ (j : Nat) y, j ≠ i → own[j]? = some y → ∀ id ∈ y.ids, id ∉ x.ids := by
    intro j y hj hy id hid hx
    rw [List.pairwise_iff_getElem] at hpair
    obtain ⟨hi1, hi2⟩ := List.getElem?_eq_some_iff.1 hi
    obtain ⟨hj1, hj2⟩ := List.getElem?_eq_some_iff.1 hy
    rcases Nat.lt_or_gt_of_ne hj with hlt | hgt
    · exact hpair j i hj1 hi1 hlt id (by rw [hj2]; exact hid) (by rw [hi2]; exact hx)
    · exact hpair i j hi1 hj1 hgt id (by rw [hi2]; exact hx) (by rw [hj2]; exact hid)
  have hmem' : ∀ y ∈ own.set i x', y = x' ∨ ∃ j, j ≠ i ∧ own[j]? = some y := by
    intro y hy
    obtain ⟨j, hj⟩ := List.getElem?_of_mem hy
    rw [List.getElem?_set] at hj
    by_cases e : i = j
    · subst e
      obtain ⟨hi1, _⟩ := List.getElem?_eq_some_iff.1 hi
      simp [hi1] at hj
      exact .inl hj.symm
    · rw [if_neg e] at hj
      exact .inr ⟨j, fun h => e h.symm, hj⟩
  refine ⟨Nat.le_trans H.next hnext, ?_, ?_, ?_, ?_, ?_, ?_⟩
  · intro id hid hM
    rw [hsame id (Nat.lt_of_lt_of_le hid H.next) (fun hx => hM ((H.oi x hmem id hx).2 hid)), H.old id hid hM]
  · intro y hy
    rcases hmem' y hy with rfl | ⟨j, hj, hy⟩
    · exact hx
    · exact Own.holds_same (fun id hid => hsame id (H.oi y (List.mem_of_getElem? hy) id hid).1 (hoth j y hj hy id hid)) (H.oh y (List.mem_of_getElem? hy))
  · intro y hy id hid
    rcases hmem' y hy with rfl | ⟨j, hj, hy⟩
    · obtain ⟨h1, h2⟩ := hids id hid
      refine ⟨h1, fun hB => ?_⟩
      rcases h2 with h2 | h2
      · exact (H.oi x hmem id h2).2 hB
      · exact absurd hB (by have := H.next; omega)
    · have := H.oi y (List.mem_of_getElem? hy) id hid
      exact ⟨Nat.lt_of_lt_of_le this.1 hnext, this.2⟩
  · rw [List.pairwise_iff_getElem]
    rw [List.pairwise_iff_getElem] at hpair
    intro a b ha hb hab id h1 h2
    rw [List.length_set] at ha hb
    rw [List.getElem_set] at h1 h2
    split at h1
    · rename_i ea
      subst ea
      rw [if_neg (by omega)] at h2
      rcases (hids id h1).2 with hx | hx
      · exact hoth b own[b] (by omega) (List.getElem?_eq_getElem hb) id h2 hx
      · have := (H.oi _ (List.getElem_mem hb) id h2).1; omega
    · split at h2
      · rename_i eb
        subst eb
        rcases (hids id h2).2 with hx | hx
        · exact hoth a own[a] (by omega) (List.getElem?_eq_getElem ha) id h1 hx
        · have := (H.oi _ (List.getElem_mem ha) id h1).1; omega
      · exact hpair a b ha hb hab id h1 h2
  · intro φ hφ
    exact Fct.holds_same (fun id hid => hsame id (H.ri φ hφ id hid).1 ((H.ri φ hφ id hid).2 x hmem)) (H.rh φ hφ)
  · intro φ hφ id hid
    have := H.ri φ hφ id hid
    refine ⟨Nat.lt_of_lt_of_le this.1 hnext, fun y hy h => ?_⟩
    rcases hmem' y hy with rfl | ⟨j, hj, hy⟩
    · rcases (hids id h).2 with hx | hx
      · exact this.2 x hmem hx
      · omega
    · exact this.2 y (List.mem_of_getElem? hy) h

theorem Cx.grow (H : Cx B M S own ro) (hg : Grows S S1) : Cx B M S1 own ro where
  next := Nat.le_trans H.next hg.next
  old := fun id h1 h2 => by rw [hg.old id (Nat.lt_of_lt_of_le h1 H.next), H.old id h1 h2]
  oh := fun x hx => Own.holds_same (fun id hid => hg.old id (H.oi x hx id hid).1) (H.oh x hx)
  oi := fun x hx id hid => ⟨Nat.lt_of_lt_of_le (H.oi x hx id hid).1 hg.next, (H.oi x hx id hid).2⟩
  od := H.od
  rh := fun φ hφ => Fct.holds_same (fun id hid => hg.old id (H.ri φ hφ id hid).1) (H.rh φ hφ)
  ri := fun φ hφ id hid => ⟨Nat.lt_of_lt_of_le (H.ri φ hφ id hid).1 hg.next, (H.ri φ hφ id hid).2⟩

theorem Cx.addOwn (H : Cx B M S own ro) (hg : Grows S S1) {x : Own} (hx : x.holds S1) (hids : ∀ id ∈ x.ids, S.next ≤ id ∧ id < S1.next) : Cx B M S1 (x :: own) ro := by
  have K := H.grow hg
  refine ⟨K.next, K.old, ?_, ?_, ?_, K.rh, ?_⟩
  · intro y hy
    rcases List.mem_cons.1 hy with rfl | hy
    · exact hx
    · exact K.oh y hy
  · intro y hy id hid
    rcases List.mem_cons.1 hy with rfl | hy
    · have := hids id hid
      exact ⟨this.2, fun hB => absurd hB (by have := H.next; omega)⟩
    · exact K.oi y hy id hid
  · refine List.pairwise_cons.2 ⟨fun y hy id h1 h2 => ?_, K.od⟩
    have := (H.oi y hy id h2).1
    have := (hids id h1).1
    omega
  · intro φ hφ id hid
    refine ⟨(K.ri φ hφ id hid).1, fun y hy => ?_⟩
    rcases List.mem_cons.1 hy with rfl | hy
    · intro h
      have := (H.ri φ hφ id hid).1
      have := (hids id h).1
      omega
    · exact (K.ri φ hφ id hid).2 y hy
theorem Cx.addRo (H : Cx B M S own ro) {φ : Fct} (hx : φ.holds S) (hids : ∀ id ∈ φ.ids, id < S.next ∧ ∀ x ∈ own, id ∉ x.ids) : Cx B M S own (φ :: ro) where
  next := H.next
  old := H.old
  oh := H.oh
  oi := H.oi
  od := H.od
  rh := fun ψ hψ => by
    rcases List.mem_cons.1 hψ with rfl | hψ
    · exact hx
    · exact H.rh ψ hψ
  ri := fun ψ hψ => by
    rcases List.mem_cons.1 hψ with rfl | hψ
    · exact hids
    · exact H.ri ψ hψ
theorem Cx.addNewRo (H : Cx B M S own ro) (hg : Grows S S1) {φ : Fct} (hx : φ.holds S1) (hids : ∀ id ∈ φ.ids, S.next ≤ id ∧ id < S1.next) : Cx B M S1 own (φ :: ro) :=
  (H.grow hg).addRo hx fun id hid => ⟨(hids id hid).2, fun x hx h => by have := (H.oi x hx id h).1; have := (hids id hid).1; omega⟩
theorem Cx.dropRo (H : Cx B M S own ro) {ro' : List Fct} (h : ∀ φ ∈ ro', φ ∈ ro) : Cx B M S own ro' :=
  ⟨H.next, H.old, H.oh, H.oi, H.od, fun φ hφ => H.rh φ (h φ hφ), fun φ hφ => H.ri φ (h φ hφ)⟩
theorem Cx.dropOwn (H : Cx B M S own ro) {own' : List Own} (h : own'.Sublist own) : Cx B M S own' ro :=
  ⟨H.next, H.old, fun x hx => H.oh x (h.subset hx), fun x hx => H.oi x (h.subset hx), H.od.sublist h, H.rh, fun φ hφ id hid => ⟨(H.ri φ hφ id hid).1, fun x hx => (H.ri φ hφ id hid).2 x (h.subset hx)⟩⟩
theorem Cx.tl {φ : Fct} (H : Cx B M S own (φ :: ro)) : Cx B M S own ro := H.dropRo fun ψ h => List.mem_cons_of_mem _ h
theorem Cx.grows (H : Cx B [] S own ro) : Grows B S := ⟨H.next, fun id h => H.old id h (by simp)⟩
theorem Cx.enter {ro : List Fct} (h : ∀ φ ∈ ro, φ.holds S ∧ ∀ id ∈ φ.ids, id < S.next) : Cx S [] S [] ro where
  next := Nat.le_refl _
  old := fun _ _ _ => rfl
  oh := fun _ h => by simp at h
  oi := fun _ h => by simp at h
  od := List.Pairwise.nil
  rh := fun φ hφ => (h φ hφ).1
  ri := fun φ hφ id hid => ⟨(h φ hφ).2 id hid, fun _ h => by simp at h⟩
end
end
end Go.Abs
namespace Go.Abs
noncomputable section
set_option linter.unusedVariables false

/-! ### '==' on structs of numbers and bools -/
section
variable {P : Program}
theorem pureRun_bind {α β : Type} {s : Sem α} {f : α → Sem β} : ∀ {a : α}, pureRun P s = some a → pureRun P (s >>= f) = pureRun P (f a) := by
  induction s with
  | pure a => intro b h; simp [pureRun] at h; subst h; rfl
  | program k ih => intro b h; exact ih P h
  | mark m k ih => intro b h; exact ih h
  | _ => intro b h; simp [pureRun] at h
theorem pureRun_pure {α : Type} (a : α) : pureRun P (pure a : Sem α) = some a := rfl
theorem pureRun_program : pureRun P program = some P := rfl
theorem pureRun_underlying {t : TypeId} {d : TypeDesc} (h : P.underlying t = some d) : pureRun P (underlying t) = some d := by
  unfold underlying
  rw [pureRun_bind pureRun_program, h]; rfl
theorem pureRun_sizeOf {t : TypeId} {n : Nat} (h : sizeT P t = some n) : pureRun P (sizeOf t) = some n := by
  unfold sizeT at h
  cases hi : P.info? t with
  | none => rw [hi] at h; cases h
  | some i =>
    rw [hi] at h
    cases h
    have ht : pureRun P (typeInfo t) = some i := by
      unfold typeInfo
      rw [pureRun_bind pureRun_program, hi]; rfl
    unfold sizeOf
    rw [pureRun_bind ht]; rfl

def flatF (rec : TypeId → Option (List (Option IntKind))) (P : Program) : List Field → Nat → Option (List (Option IntKind))
  | [], _ => some []
  | f :: fs, off => if f.name = "_" then none else if f.offset ≠ off then none else match rec f.type with
    | none => none
    | some ks => if sizeT P f.type = some ks.length then (match flatF rec P fs (off + ks.length) with | some l => some (ks ++ l) | none => none) else none
def flatT (P : Program) : Nat → TypeId → Option (List (Option IntKind))
  | 0, _ => none
  | d + 1, t => match P.underlying t with
    | some .bool => some [none]
    | some (.int k) => some [some k]
    | some (.struct fs) => if P.stoodInHeld t then none else flatF (flatT P d) P fs.toList 0
    | _ => none

def cellK : Option IntKind → Value → Bool
  | none, .bool _ => true
  | some k, .int k' _ => decide (k = k')
  | _, _ => false
def cellsK : List (Option IntKind) → List Value → Bool
  | [], [] => true
  | k :: ks, v :: vs => cellK k v && cellsK ks vs
  | _, _ => false
def eqV : Value → Value → Bool
  | .bool a, .bool b => a == b
  | .int _ a, .int _ b => a == b
  | _, _ => false
def eqVs : List Value → List Value → Bool
  | [], [] => true
  | a :: r, b :: s => eqV a b && eqVs r s
  | _, _ => false
theorem cellsK_length : ∀ {ks : List (Option IntKind)} {vs : List Value}, cellsK ks vs = true → vs.length = ks.length
  | [], [], _ => rfl
  | [], _ :: _, h => by simp [cellsK] at h
  | _ :: _, [], h => by simp [cellsK] at h
  | _ :: ks, _ :: vs, h => by simp only [cellsK, Bool.and_eq_true] at h; simp [cellsK_length h.2]
theorem cellsK_append : ∀ {ks ls : List (Option IntKind)} {vs : List Value}, cellsK (ks ++ ls) vs = true → cellsK ks (vs.take ks.length) = true ∧ cellsK ls (vs.drop ks.length) = true
  | [], ls, vs, h => by simpa [cellsK] using h
  | k :: ks, ls, [], h => by simp [cellsK] at h
  | k :: ks, ls, v :: vs, h => by
    simp only [List.cons_append, cellsK, Bool.and_eq_true] at h
    obtain ⟨h1, h2⟩ := cellsK_append h.2
    simp [cellsK, h.1, h1, h2]
theorem eqVs_append : ∀ {n : Nat} {xs ys : List Value}, xs.length = ys.length → eqVs xs ys = (eqVs (xs.take n) (ys.take n) && eqVs (xs.drop n) (ys.drop n))
  | 0, xs, ys, h => by simp [eqVs]
  | n + 1, [], [], h => by simp [eqVs]
  | n + 1, [], _ :: _, h => by simp at h
  | n + 1, _ :: _, [], h => by simp at h
  | n + 1, x :: xs, y :: ys, h => by
    simp only [List.take_succ_cons, List.drop_succ_cons, eqVs]
    rw [eqVs_append (n := n) (by simpa using h), Bool.and_assoc]

def ofCells (P : Program) (t : TypeId) (vs : List Value) : Value := match P.underlying t with
  | some (.struct _) => .agg vs.toArray
  | _ => vs.headD undef

theorem part_flat {d : Nat} {t : TypeId} {ks : List (Option IntKind)} (hf : flatT P d t = some ks) (hs : sizeT P t = some ks.length) {xs : List Value} {off : Nat} (hl : off + ks.length ≤ xs.length) :
    pureRun P (part t xs.toArray off) = some (ofCells P t ((xs.drop off).take ks.length)) := by
  cases d with
  | zero => simp [flatT] at hf
  | succ d =>
    unfold flatT at hf
    cases hu : P.underlying t with
    | none => rw [hu] at hf; cases hf
    | some u =>
      rw [hu] at hf
      have one : ∀ k, ks = [k] → (isAgg t = isAgg t) → pureRun P (isAgg t) = some false → pureRun P (part t xs.toArray off) = some (((xs.drop off).take ks.length).headD undef) := by
        intro k hk _ ha
        subst hk
        unfold part
        rw [pureRun_bind ha]
        have hlt : off < xs.length := by simp at hl; omega
        have h1 : xs.toArray[off]? = some xs[off] := by simp [hlt]
        simp only [Bool.false_eq_true, if_false, h1, pureRun_pure]
        simp only [List.length_cons, List.length_nil]
        rw [List.drop_eq_getElem_cons hlt]; rfl
      have agg : ∀ b, (match u with | .struct _ => b = true | .array _ _ => b = true | _ => b = false) → pureRun P (isAgg t) = some b := by
        intro b hb
        unfold isAgg
        rw [pureRun_bind (pureRun_underlying hu)]
        cases u <;> simp only at hb ⊢ <;> subst hb <;> rfl
      cases u with
      | bool => cases hf; unfold ofCells; rw [hu]; exact one _ rfl rfl (agg false rfl)
      | int k => cases hf; unfold ofCells; rw [hu]; exact one _ rfl rfl (agg false rfl)
      | struct fs =>
        unfold ofCells part
        rw [hu, pureRun_bind (agg true rfl)]
        simp only [if_true]
        rw [pureRun_bind (pureRun_sizeOf hs)]
        simp only [pureRun_pure, Option.some.injEq, Value.agg.injEq]
        apply Array.toList_inj.1
        simp [List.take_drop]
      | _ => cases hf

theorem equal_flat : ∀ (d : Nat) (t : TypeId) (ks : List (Option IntKind)), flatT P d t = some ks → ∀ (D : Nat), d ≤ D → ∀ xs ys : List Value, cellsK ks xs = true → cellsK ks ys = true →
    pureRun P (Op.equalIn D t (ofCells P t xs) (ofCells P t ys)) = some (eqVs xs ys)
  | 0, t, ks, hf, _, _, _, _, _, _ => by simp [flatT] at hf
  | d + 1, t, ks, hf, 0, hD, _, _, _, _ => by omega
  | d + 1, t, ks, hf, D + 1, hD, xs, ys, hx, hy => by
    unfold flatT at hf
    cases hu : P.underlying t with
    | none => rw [hu] at hf; cases hf
    | some u =>
      rw [hu] at hf
      cases u with
      | bool =>
        cases hf
        cases xs with
        | nil => simp [cellsK] at hx
        | cons x xs =>
          cases ys with
          | nil => simp [cellsK] at hy
          | cons y ys =>
            simp only [cellsK, Bool.and_eq_true] at hx hy
            cases xs with
            | cons _ _ => simp [cellsK] at hx
            | nil =>
              cases ys with
              | cons _ _ => simp [cellsK] at hy
              | nil =>
                cases x <;> simp [cellK] at hx
                cases y <;> simp [cellK] at hy
                unfold ofCells Op.equalIn
                rw [hu, pureRun_bind (pureRun_underlying hu)]
                simp [eqVs, eqV, pureRun_pure]
      | int k =>
        cases hf
        cases xs with
        | nil => simp [cellsK] at hx
        | cons x xs =>
          cases ys with
          | nil => simp [cellsK] at hy
          | cons y ys =>
            simp only [cellsK, Bool.and_eq_true] at hx hy
            cases xs with
            | cons _ _ => simp [cellsK] at hx
            | nil =>
              cases ys with
              | cons _ _ => simp [cellsK] at hy
              | nil =>
                cases x <;> simp [cellK] at hx
                cases y <;> simp [cellK] at hy
                have hx := hx.1
                have hy := hy.1
                subst hx
                subst hy
                unfold ofCells Op.equalIn
                rw [hu, pureRun_bind (pureRun_underlying hu)]
                simp [eqVs, eqV, pureRun_pure]
      | struct fs =>
        simp only at hf
        cases hsi : P.stoodInHeld t with
        | true => rw [hsi] at hf; simp at hf
        | false =>
          rw [hsi] at hf
          simp only [Bool.false_eq_true, if_false] at hf
          unfold ofCells Op.equalIn
          rw [hu, pureRun_bind (pureRun_underlying hu)]
          simp only
          rw [pureRun_bind pureRun_program]
          simp only [hsi, Bool.false_eq_true, if_false]
          rw [← Array.forIn_toList]
          have key : ∀ (fs : List Field) (off : Nat) (ks : List (Option IntKind)), flatF (flatT P d) P fs off = some ks → cellsK ks (xs.drop off) = true → cellsK ks (ys.drop off) = true → (off ≤ xs.length ∧ off ≤ ys.length) →
              pureRun P (do
                let s ← forIn (m := Sem) fs ((none, ()) : Option Bool × Unit) (fun f s =>
                  if f.name ≠ "_" then do
                    let a ← part f.type xs.toArray f.offset
                    let b ← part f.type ys.toArray f.offset
                    let c ← Op.equalIn D f.type a b
                    if (!c) = true then pure (ForInStep.done (some false, ())) else pure (ForInStep.yield (none, ()))
                  else pure (ForInStep.yield (none, ())))
                match s.fst with
                | some a => pure a
                | none => pure true) = some (eqVs (xs.drop off) (ys.drop off)) := by
            intro fs
            induction fs with
            | nil =>
              intro off ks hf hx hy hle
              cases hf
              have e1 : xs.drop off = [] := List.length_eq_zero_iff.1 (cellsK_length hx)
              have e2 : ys.drop off = [] := List.length_eq_zero_iff.1 (cellsK_length hy)
              rw [e1, e2]
              rfl
            | cons f fs ih =>
              intro off ks hf hx hy hle
              unfold flatF at hf
              by_cases hn : f.name = "_"
              · rw [if_pos hn] at hf; cases hf
              · rw [if_neg hn] at hf
                by_cases ho : f.offset ≠ off
                · rw [if_pos ho] at hf; cases hf
                · rw [if_neg ho] at hf
                  have ho : f.offset = off := by omega
                  cases hr : flatT P d f.type with
                  | none => rw [hr] at hf; cases hf
                  | some k1 =>
                    rw [hr] at hf
                    simp only at hf
                    by_cases hs : sizeT P f.type = some k1.length
                    · rw [if_pos hs] at hf
                      cases hrest : flatF (flatT P d) P fs (off + k1.length) with
                      | none => rw [hrest] at hf; cases hf
                      | some k2 =>
                        rw [hrest] at hf
                        cases hf
                        obtain ⟨x1, x2⟩ := cellsK_append hx
                        obtain ⟨y1, y2⟩ := cellsK_append hy
                        have lx := cellsK_length hx
                        have ly := cellsK_length hy
                        simp only [List.length_drop, List.length_append] at lx ly
                        rw [List.drop_drop] at x2 y2
                        have ih := ih (off + k1.length) k2 hrest x2 y2 ⟨by omega, by omega⟩
                        have hp1 := part_flat (P := P) hr hs (xs := xs) (off := f.offset) (by omega)
                        have hp2 := part_flat (P := P) hr hs (xs := ys) (off := f.offset) (by omega)
                        rw [ho] at hp1 hp2
                        have he := equal_flat d f.type k1 hr D (by omega) _ _ x1 y1
                        rw [List.forIn_cons]
                        simp only [hn, ne_eq, not_false_eq_true, if_true, bind_assoc, ho]
                        rw [pureRun_bind hp1, pureRun_bind hp2, pureRun_bind he]
                        have hsplit := eqVs_append (n := k1.length) (xs := xs.drop off) (ys := ys.drop off) (by simp; omega)
                        rw [List.drop_drop, List.drop_drop] at hsplit
                        rw [hsplit]
                        cases hb : eqVs ((xs.drop off).take k1.length) ((ys.drop off).take k1.length) with
                        | false => simp [pureRun_pure, pure_bind]
                        | true =>
                          simp only [Bool.not_true, Bool.false_eq_true, if_false, pure_bind, Bool.true_and]
                          exact ih
                    · rw [if_neg hs] at hf; cases hf
          have := key fs.toList 0 ks hf (by simpa using hx) (by simpa using hy) ⟨by omega, by omega⟩
          rw [List.drop_zero, List.drop_zero] at this
          refine Eq.trans (congrArg (pureRun P) ?_) this
          congr 1
          funext s
          obtain ⟨a, b⟩ := s
          cases a <;> rfl
      | _ => cases hf
end
end
end Go.Abs
namespace Go.Abs
noncomputable section
set_option linter.unusedVariables false
abbrev I (n : Int) : AV := .sc (.int .i64 n)
abbrev U (n : Int) : AV := .sc (.int .u64 n)
abbrev B (b : Bool) : AV := .sc (.bool b)
abbrev Np : AV := .sc (.pointer none)
abbrev Ns : AV := .sc (.slice none 0 0)
abbrev Nm : AV := .sc (.map none)
abbrev Nf : AV := .sc .nilFunc
abbrev Z (κ : IntKind) (n : Int) : AV := .sc (.int κ n)

theorem kindEq_refl (κ : IntKind) : kindEq κ κ = true := by cases κ <;> rfl
theorem wrap64 {n : Int} (h1 : -9223372036854775808 ≤ n) (h2 : n ≤ 9223372036854775807) : wrapF .i64 n = n := by
  rw [wrapF_eq, IntKind.wrap_i64]; omega

section
variable {M : Mach} {S : AH} {Q : Post} {k : AV → AC} {κ : IntKind} {a b : Int}

/-! ### numbers -/
theorem e_add : evalOp M.P (.bin .add (Z κ a) (Z κ b)) S = some (Z κ (wrapF κ (a + b)), S) := by
  show pur (either (int2 _ (Z κ a) (Z κ b)) _) S = _
  simp only [int2, asInt, vInt, kindEq_refl]; rfl
theorem e_sub : evalOp M.P (.bin .sub (Z κ a) (Z κ b)) S = some (Z κ (wrapF κ (a - b)), S) := by
  show pur (bSub (Z κ a) (Z κ b)) S = _
  unfold bSub
  simp only [int2, asInt, vInt, kindEq_refl]; rfl
theorem e_mul : evalOp M.P (.bin .mul (Z κ a) (Z κ b)) S = some (Z κ (wrapF κ (a * b)), S) := by
  show pur (bMul (Z κ a) (Z κ b)) S = _
  unfold bMul
  simp only [int2, asInt, vInt, kindEq_refl]; rfl
theorem e_quo (h : b ≠ 0) : evalOp M.P (.bin .quo (Z κ a) (Z κ b)) S = some (Z κ (wrapF κ (a.tdiv b)), S) := by
  show pur (bQuo (Z κ a) (Z κ b)) S = _
  unfold bQuo
  have : eqF b 0 = false := by rw [eqF_eq]; simpa using h
  simp only [int2, asInt, vInt, kindEq_refl, this]; rfl
theorem e_rem (h : b ≠ 0) : evalOp M.P (.bin .rem (Z κ a) (Z κ b)) S = some (Z κ (a.tmod b), S) := by
  show pur (bRem (Z κ a) (Z κ b)) S = _
  unfold bRem
  have : eqF b 0 = false := by rw [eqF_eq]; simpa using h
  simp only [int2, asInt, vInt, kindEq_refl, this]; rfl
theorem e_lss : evalOp M.P (.bin .lss (Z κ a) (Z κ b)) S = some (B (decide (a < b)), S) := by
  show pur (either (int2 _ (Z κ a) (Z κ b)) _) S = _
  simp only [int2, asInt, vInt, kindEq_refl, ltF_eq]; rfl
theorem e_leq : evalOp M.P (.bin .leq (Z κ a) (Z κ b)) S = some (B (decide (a ≤ b)), S) := by
  show pur (either (int2 _ (Z κ a) (Z κ b)) _) S = _
  have : (!decide (b < a)) = decide (a ≤ b) := by rw [Bool.eq_iff_iff]; simp
  simp only [int2, asInt, vInt, kindEq_refl, ltF_eq, this]; rfl
theorem e_gtr : evalOp M.P (.bin .gtr (Z κ a) (Z κ b)) S = some (B (decide (b < a)), S) := by
  show pur (either (int2 _ (Z κ a) (Z κ b)) _) S = _
  simp only [int2, asInt, vInt, kindEq_refl, ltF_eq]; rfl
theorem e_geq : evalOp M.P (.bin .geq (Z κ a) (Z κ b)) S = some (B (decide (b ≤ a)), S) := by
  show pur (either (int2 _ (Z κ a) (Z κ b)) _) S = _
  have : (!decide (a < b)) = decide (b ≤ a) := by rw [Bool.eq_iff_iff]; simp
  simp only [int2, asInt, vInt, kindEq_refl, ltF_eq, this]; rfl
theorem e_eql : evalOp M.P (.bin .eql (Z κ a) (Z κ b)) S = some (B (decide (a = b)), S) := by
  show pur (either (int2 _ (Z κ a) (Z κ b)) _) S = _
  have : (a == b) = decide (a = b) := by rw [Bool.eq_iff_iff]; simp
  simp only [int2, asInt, vInt, kindEq_refl, eqF_eq, this]; rfl
theorem e_neq : evalOp M.P (.bin .neq (Z κ a) (Z κ b)) S = some (B (decide (a ≠ b)), S) := by
  show pur (either (int2 _ (Z κ a) (Z κ b)) _) S = _
  have : (!(a == b)) = decide (a ≠ b) := by rw [Bool.eq_iff_iff]; simp
  simp only [int2, asInt, vInt, kindEq_refl, eqF_eq, this]; rfl

theorem wp_add {c : Int} (hw : wrapF κ (a + b) = c) (h : wp M (k (Z κ c)) S Q) : wp M (.op (.bin .add (Z κ a) (Z κ b)) k) S Q := wp_op e_add (hw ▸ h)
theorem wp_sub {c : Int} (hw : wrapF κ (a - b) = c) (h : wp M (k (Z κ c)) S Q) : wp M (.op (.bin .sub (Z κ a) (Z κ b)) k) S Q := wp_op e_sub (hw ▸ h)
theorem wp_mul {c : Int} (hw : wrapF κ (a * b) = c) (h : wp M (k (Z κ c)) S Q) : wp M (.op (.bin .mul (Z κ a) (Z κ b)) k) S Q := wp_op e_mul (hw ▸ h)
theorem wp_quo {c : Int} (hb : b ≠ 0) (hw : wrapF κ (a.tdiv b) = c) (h : wp M (k (Z κ c)) S Q) : wp M (.op (.bin .quo (Z κ a) (Z κ b)) k) S Q := wp_op (e_quo hb) (hw ▸ h)
theorem wp_rem (hb : b ≠ 0) (h : wp M (k (Z κ (a.tmod b))) S Q) : wp M (.op (.bin .rem (Z κ a) (Z κ b)) k) S Q := wp_op (e_rem hb) h
theorem wp_add64 (h1 : -9223372036854775808 ≤ a + b) (h2 : a + b ≤ 9223372036854775807) (h : wp M (k (I (a + b))) S Q) : wp M (.op (.bin .add (I a) (I b)) k) S Q := wp_add (wrap64 h1 h2) h
theorem wp_sub64 (h1 : -9223372036854775808 ≤ a - b) (h2 : a - b ≤ 9223372036854775807) (h : wp M (k (I (a - b))) S Q) : wp M (.op (.bin .sub (I a) (I b)) k) S Q := wp_sub (wrap64 h1 h2) h
theorem wp_lss_t (h0 : a < b) (h : wp M (k (B true)) S Q) : wp M (.op (.bin .lss (Z κ a) (Z κ b)) k) S Q := wp_op e_lss (by rw [decide_eq_true h0]; exact h)
theorem wp_lss_f (h0 : b ≤ a) (h : wp M (k (B false)) S Q) : wp M (.op (.bin .lss (Z κ a) (Z κ b)) k) S Q := wp_op e_lss (by rw [decide_eq_false (by omega)]; exact h)
theorem wp_lss (h1 : a < b → wp M (k (B true)) S Q) (h2 : b ≤ a → wp M (k (B false)) S Q) : wp M (.op (.bin .lss (Z κ a) (Z κ b)) k) S Q :=
  if h : a < b then wp_lss_t h (h1 h) else wp_lss_f (by omega) (h2 (by omega))
theorem wp_leq_t (h0 : a ≤ b) (h : wp M (k (B true)) S Q) : wp M (.op (.bin .leq (Z κ a) (Z κ b)) k) S Q := wp_op e_leq (by rw [decide_eq_true h0]; exact h)
theorem wp_leq_f (h0 : b < a) (h : wp M (k (B false)) S Q) : wp M (.op (.bin .leq (Z κ a) (Z κ b)) k) S Q := wp_op e_leq (by rw [decide_eq_false (by omega)]; exact h)
theorem wp_leq (h1 : a ≤ b → wp M (k (B true)) S Q) (h2 : b < a → wp M (k (B false)) S Q) : wp M (.op (.bin .leq (Z κ a) (Z κ b)) k) S Q :=
  if h : a ≤ b then wp_leq_t h (h1 h) else wp_leq_f (by omega) (h2 (by omega))
theorem wp_gtr_t (h0 : b < a) (h : wp M (k (B true)) S Q) : wp M (.op (.bin .gtr (Z κ a) (Z κ b)) k) S Q := wp_op e_gtr (by rw [decide_eq_true h0]; exact h)
theorem wp_gtr_f (h0 : a ≤ b) (h : wp M (k (B false)) S Q) : wp M (.op (.bin .gtr (Z κ a) (Z κ b)) k) S Q := wp_op e_gtr (by rw [decide_eq_false (by omega)]; exact h)
theorem wp_gtr (h1 : b < a → wp M (k (B true)) S Q) (h2 : a ≤ b → wp M (k (B false)) S Q) : wp M (.op (.bin .gtr (Z κ a) (Z κ b)) k) S Q :=
  if h : b < a then wp_gtr_t h (h1 h) else wp_gtr_f (by omega) (h2 (by omega))
theorem wp_geq_t (h0 : b ≤ a) (h : wp M (k (B true)) S Q) : wp M (.op (.bin .geq (Z κ a) (Z κ b)) k) S Q := wp_op e_geq (by rw [decide_eq_true h0]; exact h)
theorem wp_geq_f (h0 : a < b) (h : wp M (k (B false)) S Q) : wp M (.op (.bin .geq (Z κ a) (Z κ b)) k) S Q := wp_op e_geq (by rw [decide_eq_false (by omega)]; exact h)
theorem wp_geq (h1 : b ≤ a → wp M (k (B true)) S Q) (h2 : a < b → wp M (k (B false)) S Q) : wp M (.op (.bin .geq (Z κ a) (Z κ b)) k) S Q :=
  if h : b ≤ a then wp_geq_t h (h1 h) else wp_geq_f (by omega) (h2 (by omega))
theorem wp_eql_t (h0 : a = b) (h : wp M (k (B true)) S Q) : wp M (.op (.bin .eql (Z κ a) (Z κ b)) k) S Q := wp_op e_eql (by rw [decide_eq_true h0]; exact h)
theorem wp_eql_f (h0 : a ≠ b) (h : wp M (k (B false)) S Q) : wp M (.op (.bin .eql (Z κ a) (Z κ b)) k) S Q := wp_op e_eql (by rw [decide_eq_false h0]; exact h)
theorem wp_eql (h1 : a = b → wp M (k (B true)) S Q) (h2 : a ≠ b → wp M (k (B false)) S Q) : wp M (.op (.bin .eql (Z κ a) (Z κ b)) k) S Q :=
  if h : a = b then wp_eql_t h (h1 h) else wp_eql_f h (h2 h)
theorem wp_neq_t (h0 : a ≠ b) (h : wp M (k (B true)) S Q) : wp M (.op (.bin .neq (Z κ a) (Z κ b)) k) S Q := wp_op e_neq (by rw [decide_eq_true h0]; exact h)
theorem wp_neq_f (h0 : a = b) (h : wp M (k (B false)) S Q) : wp M (.op (.bin .neq (Z κ a) (Z κ b)) k) S Q := wp_op e_neq (by rw [decide_eq_false (by simpa using h0)]; exact h)
theorem wp_neq (h1 : a ≠ b → wp M (k (B true)) S Q) (h2 : a = b → wp M (k (B false)) S Q) : wp M (.op (.bin .neq (Z κ a) (Z κ b)) k) S Q :=
  if h : a = b then wp_neq_f h (h2 h) else wp_neq_t h (h1 h)
theorem wp_gop_t {g : Bool} {o : AOp} (h : wp M (.op o k) S Q) : wp M (.gop (B g) g o k) S Q := by
  obtain ⟨t, vs, S', ⟨n0, h1⟩, h2⟩ := h
  refine ⟨t, vs, S', ⟨n0, fun n hn => ?_⟩, h2⟩
  have := h1 n hn
  rw [run_op] at this
  rw [run_gop]
  unfold runGop
  cases g <;> exact this
theorem wp_gop_f {g g' : Bool} {o : AOp} (hg : g' = !g) (h : wp M (k uv) S Q) : wp M (.gop (B g) g' o k) S Q := wp_gop_not (by subst hg; cases g <;> rfl) h
theorem wp_gop_u {g' : Bool} {o : AOp} (h : wp M (k uv) S Q) : wp M (.gop uv g' o k) S Q := wp_gop_not rfl h
theorem wp_gcall_t {g : Bool} {f : AV} {args : List AV} (h : wp M (.call f args k) S Q) : wp M (.gcall (B g) g f args k) S Q := by
  obtain ⟨t, vs, S', ⟨n0, h1⟩, h2⟩ := h
  refine ⟨t, vs, S', ⟨n0, fun n hn => ?_⟩, h2⟩
  have := h1 n hn
  rw [run_call] at this
  rw [run_gcall]
  unfold runGcall
  cases g <;> exact this
theorem wp_gcall_f {g g' : Bool} {f : AV} {args : List AV} (hg : g' = !g) (h : wp M (k uv) S Q) : wp M (.gcall (B g) g' f args k) S Q := wp_gcall_not (by subst hg; cases g <;> rfl) h
theorem wp_gcall_u {g' : Bool} {f : AV} {args : List AV} (h : wp M (k uv) S Q) : wp M (.gcall uv g' f args k) S Q := wp_gcall_not rfl h
theorem wp_ite_t {x y : AC} (h : wp M x S Q) : wp M (.ite (B true) x y) S Q := wp_ite h
theorem wp_ite_f {x y : AC} (h : wp M y S Q) : wp M (.ite (B false) x y) S Q := wp_ite h
theorem toV_agg {cs : List AV} {vs : List Value} (h : toVs cs = some vs) : toV (.agg cs) = some (.agg vs.toArray) := by simp [toV, h]
theorem e_eqs {t : TypeId} {ks : List (Option IntKind)} {d : Nat} {xs ys : List AV} {vx vy : List Value} {n : Bool} (hf : flatT M.P d t = some ks) (hd : d ≤ 10000) {fs : Array Field} (hu : M.P.underlying t = some (.struct fs))
    (hg : M.P.eqGuardType M.P.depth t = false) (h1 : toVs xs = some vx) (h2 : toVs ys = some vy) (h3 : cellsK ks vx = true) (h4 : cellsK ks vy = true) :
    evalOp M.P (.eq t n (.agg xs) (.agg ys)) S = some (B (if n then !(eqVs vx vy) else eqVs vx vy), S) := by
  show pur (pEq M.P t n (.agg xs) (.agg ys)) S = _
  have h5 : aeq M.P t (.agg xs) (.agg ys) = some (eqVs vx vy) := by
    unfold aeq aeqS
    have g1 := toV_agg h1
    have g2 := toV_agg h2
    have g3 : pureRun M.P (Op.equal t (.agg vx.toArray) (.agg vy.toArray)) = some (eqVs vx vy) := by
      have := equal_flat d t ks hf 10000 hd vx vy h3 h4
      unfold ofCells at this
      rw [hu] at this
      exact this
    have g4 : asPtr (.agg xs) = none := rfl
    have e1 : nilc (.agg xs) = 0 := rfl
    have e2 : nilc (.agg ys) = 0 := rfl
    have g5 : pureRun M.P (eqGuard .eql t (.tmp 0) (.tmp 0) (.agg vx.toArray) (.agg vy.toArray)) = some () := by
      unfold eqGuard
      simp only [Bool.not_true, Bool.false_eq_true, if_false]
      rw [pureRun_bind pureRun_program, pureRun_bind pureRun_program]
      simp [hg, pureRun_pure]
    simp only [e1, e2, g1, g2, g3, g4, g5, noNum]
    rfl
  unfold pEq
  rw [h5]
  cases n <;> rfl
end
end
end Go.Abs
namespace Go.Abs
noncomputable section
set_option linter.unusedVariables false
theorem row_cells {S : AH} {id : Nat} {c : List AV} (h : S.get id = some (.row c)) : S.cells? id = some c := by unfold AH.cells?; rw [h]; rfl
theorem row_row {S : AH} {id : Nat} {c : List AV} (h : S.get id = some (.row c)) : S.row? id = some c := by unfold AH.row?; rw [h]; rfl
theorem get_new_same (S : AH) (o : AO) : (S.new o).get S.next = some o := by rw [AH.get_new, if_pos rfl]
theorem ble_t {a b : Nat} (h : a ≤ b) : Nat.ble a b = true := Nat.ble_eq_true_of_le h

theorem mkPart_one {cs : List AV} {off : Nat} {v : AV} (h : cs[off]? = some v) : mkPart false cs off 1 = some v := by
  show nthO cs off = _
  rw [nthO_eq]; exact h
theorem mkPart_agg {cs : List AV} {off n : Nat} (h : off + n ≤ cs.length) : mkPart true cs off n = some (.agg ((cs.drop off).take n)) := by
  unfold mkPart
  have : Nat.ble (Nat.add off n) (lenL cs) = true := by rw [lenL_eq]; exact ble_t h
  simp only [this, takeL_eq, dropL_eq]

section
variable {M : Mach} {B0 S : AH} {W : List Nat} {own : List Own} {ro : List Fct} {Q : Post} {k : AV → AC}

/-! ### loads of what nobody turns -/
theorem pt_get {id off j : Nat} {cs : List AV} {v : AV} (h : (Fct.pt id off cs).holds S) (hj : cs[j]? = some v) : ∃ c, S.cells? id = some c ∧ c[off + j]? = some v := by
  obtain ⟨c, h1, _, h2⟩ := h
  refine ⟨c, h1, ?_⟩
  rw [← h2, List.getElem?_take, List.getElem?_drop] at hj
  split at hj
  · exact hj
  · cases hj
theorem pt_agg {id off j n : Nat} {cs : List AV} (h : (Fct.pt id off cs).holds S) (hj : j + n ≤ cs.length) : ∃ c, S.cells? id = some c ∧ off + j + n ≤ c.length ∧ (c.drop (off + j)).take n = (cs.drop j).take n := by
  obtain ⟨c, h1, hl, h2⟩ := h
  refine ⟨c, h1, by omega, ?_⟩
  rw [← h2, List.drop_take, List.drop_drop, List.take_take, Nat.min_eq_left (by omega)]
theorem e_load1 {id off : Nat} {c : List AV} {v : AV} (h1 : S.cells? id = some c) (h2 : c[off]? = some v) : evalOp M.P (.load 1 false (.ptr id off)) S = some (v, S) := by
  show pur (rLoad S 1 false (.ptr id off)) S = _
  have : rLoad S 1 false (.ptr id off) = some v := by
    show (match S.cells? id with | some c => mkPart false c off 1 | none => none) = _
    rw [h1]; exact mkPart_one h2
  rw [this]; rfl
theorem e_loadn {id off n : Nat} {c : List AV} (h1 : S.cells? id = some c) (h2 : off + n ≤ c.length) : evalOp M.P (.load n true (.ptr id off)) S = some (.agg ((c.drop off).take n), S) := by
  show pur (rLoad S n true (.ptr id off)) S = _
  have : rLoad S n true (.ptr id off) = some (.agg ((c.drop off).take n)) := by
    show (match S.cells? id with | some c => mkPart true c off n | none => none) = _
    rw [h1]; exact mkPart_agg h2
  rw [this]; rfl
theorem wp_load1 (H : Cx B0 W S own ro) {id off j : Nat} {cs : List AV} {v : AV} (hm : Fct.pt id off cs ∈ ro) (hj : cs[j]? = some v) (h : wp M (k v) S Q) : wp M (.op (.load 1 false (.ptr id (Nat.add off j))) k) S Q := by
  obtain ⟨c, h1, h2⟩ := pt_get (H.rh _ hm) hj
  exact wp_op (e_load1 h1 h2) h
theorem wp_load0 (H : Cx B0 W S own ro) {id off : Nat} {cs : List AV} {v : AV} (hm : Fct.pt id off cs ∈ ro) (hj : cs[0]? = some v) (h : wp M (k v) S Q) : wp M (.op (.load 1 false (.ptr id off)) k) S Q :=
  wp_load1 (j := 0) H hm hj h
theorem wp_loadn (H : Cx B0 W S own ro) {id off j n : Nat} {cs : List AV} (hm : Fct.pt id off cs ∈ ro) (hj : j + n ≤ cs.length) (h : wp M (k (.agg ((cs.drop j).take n))) S Q) : wp M (.op (.load n true (.ptr id (Nat.add off j))) k) S Q := by
  obtain ⟨c, h1, h2, h3⟩ := pt_agg (H.rh _ hm) hj
  exact wp_op (e_loadn h1 h2) (h3 ▸ h)
theorem wp_loada (H : Cx B0 W S own ro) {id off n : Nat} {cs : List AV} (hm : Fct.pt id off cs ∈ ro) (hj : n ≤ cs.length) (h : wp M (k (.agg (cs.take n))) S Q) : wp M (.op (.load n true (.ptr id off)) k) S Q :=
  wp_loadn (j := 0) H hm (by omega) h

/-! ### new memory -/
theorem wp_box (H : Cx B0 W S own ro) {x : AV} (ho : odd x = false) (h : ∀ id S1, Cx B0 W S1 own (.pt id 0 x.cells :: ro) → wp M (k (.ptr id 0)) S1 Q) : wp M (.op (.box x) k) S Q := by
  refine wp_op (v := .ptr S.next 0) (S1 := S.new (.row x.cells)) ?_ (h _ _ (H.addNewRo (Grows.new S _) ?_ ?_))
  · show nBox x S = _
    unfold nBox; rw [ho]; rfl
  · exact ⟨x.cells, row_cells (get_new_same _ _), by omega, by simp⟩
  · intro id hid
    simp only [Fct.ids, List.mem_singleton] at hid
    subst hid
    exact ⟨Nat.le_refl _, by simp⟩
theorem wp_boxOwn (H : Cx B0 W S own ro) {x : AV} (ho : odd x = false) (h : ∀ id S1, Cx B0 W S1 (.obj id (.row x.cells) :: own) ro → wp M (k (.ptr id 0)) S1 Q) : wp M (.op (.box x) k) S Q := by
  refine wp_op (v := .ptr S.next 0) (S1 := S.new (.row x.cells)) ?_ (h _ _ (H.addOwn (Grows.new S _) (get_new_same _ _) ?_))
  · show nBox x S = _
    unfold nBox; rw [ho]; rfl
  · intro id hid
    simp only [Own.ids, List.mem_singleton] at hid
    subst hid
    exact ⟨Nat.le_refl _, by simp⟩
theorem wp_alloc (H : Cx B0 W S own ro) {c : List AV} (h : ∀ id S1, Cx B0 W S1 (.obj id (.row c) :: own) ro → wp M (k (.ptr id 0)) S1 Q) : wp M (.op (.alloc c) k) S Q := by
  refine wp_op (v := .ptr S.next 0) (S1 := S.new (.row c)) rfl (h _ _ (H.addOwn (Grows.new S _) (get_new_same _ _) ?_))
  intro id hid
  simp only [Own.ids, List.mem_singleton] at hid
  subst hid
  exact ⟨Nat.le_refl _, by simp⟩
theorem wp_mkmap (H : Cx B0 W S own ro) (h : ∀ id S1, Cx B0 W S1 (.obj id (.map []) :: own) ro → wp M (k (.map id)) S1 Q) : wp M (.op .mkmap k) S Q := by
  refine wp_op (v := .map S.next) (S1 := S.new (.map [])) rfl (h _ _ (H.addOwn (Grows.new S _) (get_new_same _ _) ?_))
  intro id hid
  simp only [Own.ids, List.mem_singleton] at hid
  subst hid
  exact ⟨Nat.le_refl _, by simp⟩
theorem Cx.freeze (H : Cx B0 W S own ro) {i id : Nat} {c : List AV} (hi : own[i]? = some (.obj id (.row c))) : Cx B0 W S (own.eraseIdx i) (.pt id 0 c :: ro) := by
  have hmem := List.mem_of_getElem? hi
  have hsub : ∀ x ∈ own.eraseIdx i, x ∈ own := fun x hx => List.mem_of_mem_eraseIdx hx
  have K : Cx B0 W S (own.eraseIdx i) ro := ⟨H.next, H.old, fun x hx => H.oh x (hsub x hx), fun x hx => H.oi x (hsub x hx), H.od.sublist (List.eraseIdx_sublist _ _), H.rh, fun φ hφ id hid => ⟨(H.ri φ hφ id hid).1, fun x hx => (H.ri φ hφ id hid).2 x (hsub x hx)⟩⟩
  refine K.addRo ⟨c, row_cells (H.oh _ hmem), by omega, by simp⟩ fun j hj => ?_
  simp only [Fct.ids, List.mem_singleton] at hj
  subst hj
  refine ⟨(H.oi _ hmem j (by simp [Own.ids])).1, fun x hx hj => ?_⟩
  obtain ⟨m, hm⟩ := List.getElem?_of_mem hx
  have hp := H.od
  rw [List.pairwise_iff_getElem] at hp
  obtain ⟨hi1, hi2⟩ := List.getElem?_eq_some_iff.1 hi
  rw [List.getElem?_eraseIdx] at hm
  split at hm
  · rename_i hlt
    obtain ⟨hm1, hm2⟩ := List.getElem?_eq_some_iff.1 hm
    exact hp m i hm1 hi1 hlt j (by rw [hm2]; exact hj) (by rw [hi2]; simp [Own.ids])
  · rename_i hge
    obtain ⟨hm1, hm2⟩ := List.getElem?_eq_some_iff.1 hm
    exact hp i (m + 1) hi1 hm1 (by omega) j (by rw [hi2]; simp [Own.ids]) (by rw [hm2]; exact hj)

/-! ### one's own memory -/
theorem wp_store (H : Cx B0 W S own ro) (i : Nat) {id off n : Nat} {c : List AV} {v : AV} (hi : own[i]? = some (.obj id (.row c))) (ho : odd v = false) (hn : v.cells.length = n) (hl : off + n ≤ c.length)
    (h : ∀ S1, Cx B0 W S1 (own.set i (.obj id (.row (setRange c off v.cells)))) ro → wp M (k uv) S1 Q) : wp M (.op (.store n (.ptr id off) v) k) S Q := by
  have hg : S.get id = some (.row c) := H.oh _ (List.mem_of_getElem? hi)
  refine wp_op (v := uv) (S1 := S.set id (.row (setRange c off v.cells))) ?_ (h _ (H.step hi (Nat.le_refl _) ?_ ?_ ?_))
  · show eStore n (.ptr id off) v S = _
    unfold eStore
    have h1 : asPtr (.ptr id off) = some (id, off) := rfl
    have h2 : (not (odd v) && Nat.beq (lenL v.cells) n && Nat.ble (Nat.add off n) (lenL c)) = true := by
      have q1 : Nat.beq (lenL v.cells) n = true := by rw [lenL_eq, hn]; exact Nat.beq_refl n
      have q2 : Nat.ble (Nat.add off n) (lenL c) = true := by rw [lenL_eq]; exact ble_t hl
      simp only [ho, q1, q2]; rfl
    simp only [h1, row_row hg, h2]
  · intro j hj hne
    rw [AH.get_set, if_neg (by simpa [Own.ids] using hne)]
  · show (S.set id _).get id = _
    rw [AH.get_set, if_pos rfl]
  · intro j hj
    simp only [Own.ids, List.mem_singleton] at hj
    subst hj
    exact ⟨(H.oi _ (List.mem_of_getElem? hi) j (by simp [Own.ids])).1, .inl (by simp [Own.ids])⟩
theorem wp_loado (H : Cx B0 W S own ro) (i : Nat) {id off : Nat} {c : List AV} {v : AV} (hi : own[i]? = some (.obj id (.row c))) (hj : c[off]? = some v) (h : wp M (k v) S Q) : wp M (.op (.load 1 false (.ptr id off)) k) S Q :=
  wp_op (e_load1 (row_cells (H.oh _ (List.mem_of_getElem? hi))) hj) h
theorem wp_loadoa (H : Cx B0 W S own ro) (i : Nat) {id off n : Nat} {c : List AV} (hi : own[i]? = some (.obj id (.row c))) (hj : off + n ≤ c.length) (h : wp M (k (.agg ((c.drop off).take n))) S Q) : wp M (.op (.load n true (.ptr id off)) k) S Q :=
  wp_op (e_loadn (row_cells (H.oh _ (List.mem_of_getElem? hi))) hj) h
end
end
end Go.Abs
namespace Go.Abs
noncomputable section
set_option linter.unusedVariables false
section
variable {M : Mach} {B0 S : AH} {W : List Nat} {own : List Own} {ro : List Fct} {Q : Post} {k : AV → AC}

/-! ### slices -/
theorem slOk_len {v : AV} {es : Nat} {L : List (List AV)} (h : slOk S v es L) : evalOp M.P (.len false v) S = some (I L.length, S) := by
  rcases h with ⟨rfl, rfl⟩ | ⟨id, off, c, h1, h2, h3, h4⟩
  · rfl
  · rcases h1 with ⟨cap, _, _, rfl⟩ | ⟨cmin, _, _, rfl⟩ <;> rfl
theorem ownSl_ok {v : AV} {es : Nat} {L : List (List AV)} (h : (Own.sl v es L).holds S) : slOk S v es L := by
  rcases h with h | ⟨id, off, c, h0, h1, h2⟩
  · exact .inl h
  · exact .inr ⟨id, off, c, h0, row_cells h1, h2⟩
theorem wp_len (H : Cx B0 W S own ro) {v : AV} {es : Nat} {L : List (List AV)} (hm : Fct.sl v es L ∈ ro) (h : wp M (k (I L.length)) S Q) : wp M (.op (.len false v) k) S Q := wp_op (slOk_len (H.rh _ hm)) h
theorem wp_leno (H : Cx B0 W S own ro) (i : Nat) {v : AV} {es : Nat} {L : List (List AV)} (hm : own[i]? = some (.sl v es L)) (h : wp M (k (I L.length)) S Q) : wp M (.op (.len false v) k) S Q :=
  wp_op (slOk_len (ownSl_ok (H.oh _ (List.mem_of_getElem? hm)))) h

theorem flatten_at : ∀ {L : List (List AV)} {es : Nat} (h : ∀ x ∈ L, x.length = es) {i : Nat} {x : List AV}, L[i]? = some x → (L.flatten.drop (i * es)).take es = x
  | [], es, h, i, x, hx => by simp at hx
  | y :: L, es, h, 0, x, hx => by
    simp at hx; subst hx
    have := h y (by simp)
    simp [← this]
  | y :: L, es, h, i + 1, x, hx => by
    have hy := h y (by simp)
    simp only [List.flatten_cons]
    rw [show (i + 1) * es = y.length + i * es by rw [hy, Nat.succ_mul]; omega, List.drop_append]
    simp only [Nat.add_sub_cancel_left]
    have e : y.drop (y.length + i * es) = [] := List.drop_eq_nil_of_le (by omega)
    rw [e, List.nil_append]
    exact flatten_at (fun z hz => h z (by simp [hz])) (by simpa using hx)
theorem flatten_length : ∀ {L : List (List AV)} {es : Nat} (h : ∀ x ∈ L, x.length = es), L.flatten.length = L.length * es
  | [], es, h => by simp
  | y :: L, es, h => by
    simp only [List.flatten_cons, List.length_append, List.length_cons]
    rw [h y (by simp), flatten_length (fun z hz => h z (by simp [hz])), Nat.succ_mul]; omega

theorem slOk_elem {v : AV} {es : Nat} {L : List (List AV)} (h : slOk S v es L) {i : Nat} {x : List AV} (hi : L[i]? = some x) :
    ∃ id off, evalOp M.P (.saddr es v (I (i : Int))) S = some (.ptr id off, S) ∧ (Fct.pt id off x).holds S ∧ id ∈ vids v := by
  have hlt : i < L.length := (List.getElem?_eq_some_iff.1 hi).1
  rcases h with ⟨rfl, rfl⟩ | ⟨id, off, c, h1, h2, h3, h4⟩
  · simp at hi
  · have hx := h4 x (List.mem_of_getElem? hi)
    have hidx : idx? (I (i : Int)) L.length = some i := by
      show below i L.length = some i
      unfold below; rw [ble_t hlt]
    have hlen : off + L.length * es ≤ c.length ∨ es = 0 := by
      have := congrArg List.length h3
      rw [flatten_length h4, List.length_take, List.length_drop] at this
      rcases Nat.eq_zero_or_pos es with e | e
      · exact .inr e
      · left
        have : 0 < L.length * es := Nat.mul_pos (by omega) e
        omega
    have hin : off + i * es + x.length ≤ c.length := by
      rcases hlen with hl | hl
      · have : (i + 1) * es ≤ L.length * es := Nat.mul_le_mul_right es hlt
        rw [Nat.succ_mul] at this
        omega
      · subst hl
        rcases h1 with ⟨cap, _, hh, _⟩ | ⟨cmin, _, hh, _⟩ <;> simp only [Nat.mul_zero, Nat.add_zero] at hh ⊢ <;> omega
    refine ⟨id, off + i * es, ?_, ⟨c, h2, hin, ?_⟩, ?_⟩
    · rcases h1 with ⟨cap, _, _, rfl⟩ | ⟨cmin, _, _, rfl⟩
      · show pur (pSaddr es (.sl id off L.length cap) (I (i : Int))) S = _
        unfold pSaddr; simp only [hidx]; rfl
      · show pur (pSaddr es (.op id off L.length cmin es) (I (i : Int))) S = _
        unfold pSaddr; simp only [hidx]; rfl
    · have := flatten_at h4 hi
      rw [← h3, List.drop_take, List.drop_drop, List.take_take] at this
      rw [hx]
      rw [Nat.min_eq_left] at this
      · exact this
      · have : (i + 1) * es ≤ L.length * es := Nat.mul_le_mul_right es hlt
        rw [Nat.succ_mul] at this
        omega
    · rcases h1 with ⟨cap, _, _, rfl⟩ | ⟨cmin, _, _, rfl⟩ <;> simp [vids]
theorem wp_saddr (H : Cx B0 W S own ro) {v : AV} {es i : Nat} {L : List (List AV)} {x : List AV} (hm : Fct.sl v es L ∈ ro) (hi : L[i]? = some x)
    (h : ∀ id off, Cx B0 W S own (.pt id off x :: ro) → wp M (k (.ptr id off)) S Q) : wp M (.op (.saddr es v (I (i : Int))) k) S Q := by
  obtain ⟨id, off, h1, h2, h3⟩ := slOk_elem (M := M) (H.rh _ hm) hi
  refine wp_op h1 (h id off (H.addRo h2 fun j hj => ?_))
  simp only [Fct.ids, List.mem_singleton] at hj
  subst hj
  exact H.ri _ hm j h3
theorem wp_saddro (H : Cx B0 W S own ro) (n : Nat) {v : AV} {es i : Nat} {L : List (List AV)} {x : List AV} (hm : own[n]? = some (.sl v es L)) (hi : L[i]? = some x)
    (h : ∀ id off, (Fct.pt id off x).holds S → wp M (k (.ptr id off)) S Q) : wp M (.op (.saddr es v (I (i : Int))) k) S Q := by
  obtain ⟨id, off, h1, h2, h3⟩ := slOk_elem (M := M) (ownSl_ok (H.oh _ (List.mem_of_getElem? hm))) hi
  exact wp_op h1 (h id off h2)
theorem wp_loadF {id off j : Nat} {cs : List AV} {v : AV} (hp : (Fct.pt id off cs).holds S) (hj : cs[j]? = some v) (h : wp M (k v) S Q) : wp M (.op (.load 1 false (.ptr id (Nat.add off j))) k) S Q := by
  obtain ⟨c, h1, h2⟩ := pt_get hp hj
  exact wp_op (e_load1 h1 h2) h
theorem wp_loadFn {id off j n : Nat} {cs : List AV} (hp : (Fct.pt id off cs).holds S) (hj : j + n ≤ cs.length) (h : wp M (k (.agg ((cs.drop j).take n))) S Q) : wp M (.op (.load n true (.ptr id (Nat.add off j))) k) S Q := by
  obtain ⟨c, h1, h2, h3⟩ := pt_agg hp hj
  exact wp_op (e_loadn h1 h2) (h3 ▸ h)
theorem wp_faddr {id off f : Nat} (h : wp M (k (.ptr id (Nat.add off f))) S Q) : wp M (.op (.faddr f (.ptr id off)) k) S Q := wp_op rfl h
theorem wp_nilchk {id off : Nat} (h : wp M (k (.ptr id off)) S Q) : wp M (.op (.nilchk (.ptr id off)) k) S Q := wp_op rfl h

theorem e_saddr {v : AV} {es n id off i : Nat} {c : List AV} (h : slForm v es n id off c) (hi : i < n) : evalOp M.P (.saddr es v (I (i : Int))) S = some (.ptr id (off + i * es), S) := by
  have hidx : idx? (I (i : Int)) n = some i := by
    show below i n = some i
    unfold below; rw [ble_t hi]
  rcases h with ⟨cap, _, _, rfl⟩ | ⟨cmin, _, _, rfl⟩
  · show pur (pSaddr es (.sl id off n cap) (I (i : Int))) S = _
    unfold pSaddr; simp only [hidx]; rfl
  · show pur (pSaddr es (.op id off n cmin es) (I (i : Int))) S = _
    unfold pSaddr; simp only [hidx]; rfl
theorem setRange_length {c ys : List AV} {off : Nat} (h : off + ys.length ≤ c.length) : (setRange c off ys).length = c.length := by
  rw [setRange_eq]; simp; omega
theorem setRange_get {c ys : List AV} {off : Nat} (h : off + ys.length ≤ c.length) (j : Nat) : (setRange c off ys)[j]? = if off ≤ j ∧ j < off + ys.length then ys[j - off]? else c[j]? := by
  have h1 : (c.take off).length = off := by rw [List.length_take]; omega
  rw [setRange_eq, List.getElem?_append, h1]
  by_cases h2 : j < off
  · rw [if_pos h2, if_neg (by omega), List.getElem?_take, if_pos h2]
  · rw [if_neg h2, List.getElem?_append]
    by_cases h3 : j - off < ys.length
    · rw [if_pos h3, if_pos (by omega)]
    · rw [if_neg h3, if_neg (by omega), List.getElem?_drop]
      congr 1; omega
theorem flatten_set : ∀ {L : List (List AV)} {es : Nat} (h : ∀ x ∈ L, x.length = es) {i : Nat} {ys : List AV}, i < L.length → ys.length = es → (L.set i ys).flatten = setRange L.flatten (i * es) ys
  | [], es, h, i, ys, hi, hy => by simp at hi
  | y :: L, es, h, 0, ys, hi, hy => by
    have := h y (by simp)
    rw [setRange_eq]
    simp only [List.set_cons_zero, List.flatten_cons, Nat.zero_mul, List.take_zero, Nat.zero_add, List.nil_append]
    congr 1
    rw [List.drop_append, hy, ← this]; simp
  | y :: L, es, h, i + 1, ys, hi, hy => by
    have hyl := h y (by simp)
    have ih := flatten_set (L := L) (fun z hz => h z (by simp [hz])) (i := i) (ys := ys) (by simpa using hi) hy
    rw [setRange_eq] at ih ⊢
    simp only [List.set_cons_succ, List.flatten_cons, ih]
    have e1 : (i + 1) * es = y.length + i * es := by rw [hyl, Nat.succ_mul]; omega
    rw [e1, List.take_append, List.drop_append, List.take_of_length_le (by omega : y.length ≤ y.length + i * es), List.drop_eq_nil_of_le (by omega : y.length ≤ y.length + i * es + ys.length)]
    simp only [List.append_assoc, List.nil_append]
    congr 3
    · congr 1; omega
    · congr 2; omega
theorem wp_storeE (H : Cx B0 W S own ro) (n : Nat) {v : AV} {es i : Nat} {L : List (List AV)} {y : AV} (hm : own[n]? = some (.sl v es L)) (hi : i < L.length) (ho : odd y = false) (hy : y.cells.length = es)
    {k : AV → AC} (h : ∀ S1, Cx B0 W S1 (own.set n (.sl v es (L.set i y.cells))) ro → wp M (k uv) S1 Q) : wp M (.op (.saddr es v (I (i : Int))) fun p => .op (.store es p y) k) S Q := by
  have hw : slW S v es L := H.oh _ (List.mem_of_getElem? hm)
  rcases hw with ⟨rfl, rfl⟩ | ⟨id, off, c, h0, h1, h2, h3⟩
  · simp at hi
  · refine wp_op (e_saddr h0 hi) ?_
    have hfl := flatten_length h3
    have hlen : off + L.length * es ≤ c.length := by
      have hcap : ∃ m, L.length ≤ m ∧ off + m * es ≤ c.length := by
        rcases h0 with ⟨m, q1, q2, _⟩ | ⟨m, q1, q2, _⟩ <;> exact ⟨m, q1, q2⟩
      obtain ⟨m, q1, q2⟩ := hcap
      have := Nat.mul_le_mul_right es q1
      omega
    have hin : i * es + es ≤ L.length * es := by
      have : (i + 1) * es ≤ L.length * es := Nat.mul_le_mul_right es hi
      rw [Nat.succ_mul] at this; omega
    refine wp_op (v := uv) (S1 := S.set id (.row (setRange c (off + i * es) y.cells))) ?_ (h _ (H.step hm (Nat.le_refl _) ?_ ?_ ?_))
    · show eStore es (.ptr id (off + i * es)) y S = _
      unfold eStore
      have g1 : asPtr (.ptr id (off + i * es)) = some (id, off + i * es) := rfl
      have g2 : (not (odd y) && Nat.beq (lenL y.cells) es && Nat.ble (Nat.add (off + i * es) es) (lenL c)) = true := by
        have q1 : Nat.beq (lenL y.cells) es = true := by rw [lenL_eq, hy]; exact Nat.beq_refl es
        have q2 : Nat.ble (Nat.add (off + i * es) es) (lenL c) = true := by rw [lenL_eq]; exact ble_t (by show off + i * es + es ≤ c.length; omega)
        simp only [ho, q1, q2]; rfl
      simp only [g1, row_row h1, g2]
    · intro j hj hne
      rw [AH.get_set, if_neg (by simpa [Own.ids, h0.ids] using hne)]
    · refine .inr ⟨id, off, setRange c (off + i * es) y.cells, ?_, by rw [AH.get_set, if_pos rfl], ?_, ?_⟩
      · rw [List.length_set]
        have hl : (setRange c (off + i * es) y.cells).length = c.length := setRange_length (by omega)
        rcases h0 with ⟨m, q1, q2, q3⟩ | ⟨m, q1, q2, q3⟩
        · exact .inl ⟨m, q1, by rw [hl]; exact q2, q3⟩
        · exact .inr ⟨m, q1, by rw [hl]; exact q2, q3⟩
      · rw [List.length_set, flatten_set h3 hi hy, ← h2]
        apply List.ext_getElem?
        intro j
        rw [List.getElem?_take, List.getElem?_drop, setRange_get (by omega), setRange_get (by rw [List.length_take, List.length_drop]; omega)]
        rw [List.getElem?_take, List.getElem?_drop]
        by_cases hj : j < L.length * es
        · rw [if_pos hj, if_pos hj]
          by_cases hr : i * es ≤ j ∧ j < i * es + y.cells.length
          · rw [if_pos hr, if_pos (by omega)]; congr 1; omega
          · rw [if_neg hr, if_neg (by omega)]
        · rw [if_neg hj, if_neg hj, if_neg (by omega)]
      · intro x hx
        rcases List.mem_or_eq_of_mem_set hx with hx | rfl
        · exact h3 x hx
        · exact hy
    · intro j hj
      exact ⟨(H.oi _ (List.mem_of_getElem? hm) j hj).1, .inl hj⟩

/-! ### append -/
theorem slOk_elems {v : AV} {es : Nat} {L : List (List AV)} (h : slOk S v es L) : elems S es v = some (L.length, L.flatten) := by
  rcases h with ⟨rfl, rfl⟩ | ⟨id, off, c, h0, h1, h2, h3⟩
  · rfl
  · have hlen : off + L.length * es ≤ c.length := by
      have hcap : ∃ m, L.length ≤ m ∧ off + m * es ≤ c.length := by
        rcases h0 with ⟨m, q1, q2, _⟩ | ⟨m, q1, q2, _⟩ <;> exact ⟨m, q1, q2⟩
      obtain ⟨m, q1, q2⟩ := hcap
      have := Nat.mul_le_mul_right es q1
      omega
    have hb : Nat.ble (off + L.length * es) (lenL c) = true := by rw [lenL_eq]; exact ble_t hlen
    rcases h0 with ⟨m, q1, q2, rfl⟩ | ⟨m, q1, q2, rfl⟩
    · show (match S.cells? id with | some c => if Nat.ble (off + L.length * es) (lenL c) then some (L.length, takeL (L.length * es) (dropL off c)) else none | none => none) = _
      simp only [h1, hb, if_true, takeL_eq, dropL_eq, h2]
    · show (match S.cells? id with | some c => if Nat.ble (off + L.length * es) (lenL c) then some (L.length, takeL (L.length * es) (dropL off c)) else none | none => none) = _
      simp only [h1, hb, if_true, takeL_eq, dropL_eq, h2]
theorem take_setRange {c ys : List AV} {off a n : Nat} (h : off + a + ys.length ≤ c.length) (hn : n = a + ys.length) : ((setRange c (off + a) ys).drop off).take n = (c.drop off).take a ++ ys := by
  subst hn
  have h1 : (c.take (off + a)).drop off = (c.drop off).take a := by rw [List.drop_take]; congr 1; omega
  have h2 : (c.take (off + a)).length = off + a := by rw [List.length_take]; omega
  rw [setRange_eq, List.drop_append, h1, h2]
  have h3 : ((c.drop off).take a).length = a := by rw [List.length_take, List.length_drop]; omega
  rw [show off - (off + a) = 0 by omega, List.drop_zero, List.take_append, h3, List.take_of_length_le (by omega : ((c.drop off).take a).length ≤ a + ys.length)]
  congr 1
  rw [show a + ys.length - a = ys.length by omega, List.take_append, List.take_of_length_le (Nat.le_refl _), Nat.sub_self, List.take_zero, List.append_nil]
theorem e_append {v x : AV} {es bytes : Nat} {L N : List (List AV)} (hv : slW S v es L) (hx : elems S es x = some (N.length, N.flatten)) (hN : ∀ y ∈ N, y.length = es)
    (hb : (L.length + N.length) * bytes ≤ maxBytes) (hl : L.length + N.length ≤ maxLenN) (hlt : ∀ id ∈ vids v, id < S.next) :
    ∃ v1 S1, evalOp M.P (.append es bytes v x) S = some (v1, S1) ∧ slW S1 v1 es (L ++ N) ∧ S.next ≤ S1.next ∧ (∀ id, id < S.next → id ∉ vids v → S1.get id = S.get id) ∧ (∀ id ∈ vids v1, id < S1.next ∧ (id ∈ vids v ∨ S.next ≤ id)) := by
  have hfl : (L ++ N).flatten = L.flatten ++ N.flatten := List.flatten_append
  have hNl := flatten_length hN
  have hall : ∀ (hL : ∀ y ∈ L, y.length = es), ∀ y ∈ L ++ N, y.length = es := fun hL y hy => by
    rcases List.mem_append.1 hy with hy | hy
    · exact hL y hy
    · exact hN y hy
  rcases hv with ⟨rfl, rfl⟩ | ⟨id, off, c, h0, h1, h2, h3⟩
  · -- of nil
    have hev : evalOp M.P (.append es bytes Ns x) S = if Nat.beq N.length 0 then some (Ns, S) else if Nat.ble (N.length * bytes) maxBytes && Nat.ble N.length maxLenN then some (.op S.next 0 N.length N.length es, S.new (.row N.flatten)) else none := by
      show eAppend es bytes Ns x S = _
      unfold eAppend; rw [hx]; rfl
    by_cases hz : N.length = 0
    · have : N = [] := List.length_eq_zero_iff.1 hz
      subst this
      refine ⟨Ns, S, by rw [hev]; rfl, .inl ⟨rfl, rfl⟩, Nat.le_refl _, fun _ _ _ => rfl, fun id hid => by simp [vids] at hid⟩
    · have e1 : Nat.beq N.length 0 = false := by cases hq : Nat.beq N.length 0 with | true => exact absurd (Nat.eq_of_beq_eq_true hq) hz | false => rfl
      have e2 : (Nat.ble (N.length * bytes) maxBytes && Nat.ble N.length maxLenN) = true := by
        rw [ble_t (by simpa using hb), ble_t (by simpa using hl)]; rfl
      rw [e1, e2] at hev
      refine ⟨_, _, hev, .inr ⟨S.next, 0, N.flatten, .inr ⟨N.length, by simp, by rw [hNl]; omega, by simp⟩, get_new_same _ _, ?_, by simpa using hN⟩, by simp, fun id hid _ => by rw [AH.get_new, if_neg (by omega)], fun id hid => ?_⟩
      · simp only [List.drop_zero, List.nil_append]
        rw [List.take_of_length_le (by rw [hNl]; omega)]
      · simp only [vids, List.mem_singleton] at hid
        subst hid
        simp
  · have hcap : ∃ m, L.length ≤ m ∧ off + m * es ≤ c.length := by
      rcases h0 with ⟨m, q1, q2, _⟩ | ⟨m, q1, q2, _⟩ <;> exact ⟨m, q1, q2⟩
    have hlen : off + L.length * es ≤ c.length := by
      obtain ⟨m, q1, q2⟩ := hcap
      have := Nat.mul_le_mul_right es q1
      omega
    have hLl := flatten_length h3
    have hid : id < S.next := hlt id (by rw [h0.ids]; simp)
    have e2 : (Nat.ble ((L.length + N.length) * bytes) maxBytes && Nat.ble (L.length + N.length) maxLenN) = true := by rw [ble_t hb, ble_t hl]; rfl
    have hrow : appL (takeL (L.length * es) (dropL off c)) N.flatten = (L ++ N).flatten := by rw [appL_eq, takeL_eq, dropL_eq, h2, hfl]
    have hnew : ∀ S0 : AH, S0.next = S.next → (∀ j, j < S.next → j ≠ id → S0.get j = S.get j) → slW (S0.new (.row (L ++ N).flatten)) (.op S0.next 0 (L.length + N.length) (L.length + N.length) es) es (L ++ N) := fun S0 _ _ => by
      refine .inr ⟨S0.next, 0, (L ++ N).flatten, .inr ⟨(L ++ N).length, by simp, ?_, by simp⟩, get_new_same _ _, ?_, hall h3⟩
      · rw [flatten_length (hall h3)]; omega
      · rw [List.drop_zero, List.take_of_length_le (by rw [flatten_length (hall h3)]; exact Nat.le_refl _)]
    have room : ∀ cap, L.length + N.length ≤ cap → off + cap * es ≤ c.length → ((setRange c (off + L.length * es) N.flatten).drop off).take ((L ++ N).length * es) = (L ++ N).flatten ∧ (setRange c (off + L.length * es) N.flatten).length = c.length := by
      intro cap q1 q2
      have := Nat.mul_le_mul_right es q1
      rw [Nat.add_mul] at this
      refine ⟨?_, setRange_length (by omega)⟩
      rw [take_setRange (by omega) (by rw [List.length_append, Nat.add_mul, hNl]), h2, hfl]
    rcases h0 with ⟨cap, q1, q2, rfl⟩ | ⟨cmin, q1, q2, rfl⟩
    · have g1 : (Nat.ble (off + cap * es) (lenL c) && Nat.ble L.length cap) = true := by rw [lenL_eq, ble_t q2, ble_t q1]; rfl
      have hev : evalOp M.P (.append es bytes (.sl id off L.length cap) x) S = if Nat.ble (L.length + N.length) cap then some (.sl id off (L.length + N.length) cap, S.set id (.row (setRange c (off + L.length * es) N.flatten))) else
          if Nat.ble ((L.length + N.length) * bytes) maxBytes && Nat.ble (L.length + N.length) maxLenN then some (.op S.next 0 (L.length + N.length) (L.length + N.length) es, S.new (.row (appL (takeL (L.length * es) (dropL off c)) N.flatten))) else none := by
        show eAppend es bytes (.sl id off L.length cap) x S = _
        unfold eAppend; rw [hx]; simp only [h1, g1, if_true]
      by_cases hr : L.length + N.length ≤ cap
      · rw [ble_t hr] at hev
        obtain ⟨r1, r2⟩ := room cap hr q2
        refine ⟨_, _, hev, .inr ⟨id, off, _, .inl ⟨cap, by simpa using hr, by rw [r2]; exact q2, by simp⟩, by rw [AH.get_set, if_pos rfl], r1, hall h3⟩, Nat.le_refl _, fun j hj hne => ?_, fun j hj => ?_⟩
        · rw [AH.get_set, if_neg (by simpa [vids] using hne)]
        · simp only [vids, List.mem_singleton] at hj; subst hj; exact ⟨hid, .inl (by simp [vids])⟩
      · have e1 : Nat.ble (L.length + N.length) cap = false := by cases hq : Nat.ble (L.length + N.length) cap with | true => exact absurd (Nat.le_of_ble_eq_true hq) hr | false => rfl
        rw [e1, e2, hrow] at hev
        refine ⟨_, _, hev, hnew S rfl (fun _ _ _ => rfl), by simp, fun j hj _ => by rw [AH.get_new, if_neg (by omega)], fun j hj => ?_⟩
        simp only [vids, List.mem_singleton] at hj; subst hj; simp
    · have g1 : (Nat.beq es es && Nat.ble (off + cmin * es) (lenL c) && Nat.ble L.length cmin) = true := by rw [lenL_eq, ble_t q2, ble_t q1, Nat.beq_refl]; rfl
      have hev : evalOp M.P (.append es bytes (.op id off L.length cmin es) x) S = if Nat.ble (L.length + N.length) cmin then some (.op id off (L.length + N.length) cmin es, S.set id (.row (setRange c (off + L.length * es) N.flatten))) else
          if Nat.ble ((L.length + N.length) * bytes) maxBytes && Nat.ble (L.length + N.length) maxLenN then some (.op S.next 0 (L.length + N.length) (L.length + N.length) es, (S.kill id).new (.row (appL (takeL (L.length * es) (dropL off c)) N.flatten))) else none := by
        show eAppend es bytes (.op id off L.length cmin es) x S = _
        unfold eAppend; rw [hx]; simp only [h1, g1, if_true]
      by_cases hr : L.length + N.length ≤ cmin
      · rw [ble_t hr] at hev
        obtain ⟨r1, r2⟩ := room cmin hr q2
        refine ⟨_, _, hev, .inr ⟨id, off, _, .inr ⟨cmin, by simpa using hr, by rw [r2]; exact q2, by simp⟩, by rw [AH.get_set, if_pos rfl], r1, hall h3⟩, Nat.le_refl _, fun j hj hne => ?_, fun j hj => ?_⟩
        · rw [AH.get_set, if_neg (by simpa [vids] using hne)]
        · simp only [vids, List.mem_singleton] at hj; subst hj; exact ⟨hid, .inl (by simp [vids])⟩
      · have e1 : Nat.ble (L.length + N.length) cmin = false := by cases hq : Nat.ble (L.length + N.length) cmin with | true => exact absurd (Nat.le_of_ble_eq_true hq) hr | false => rfl
        rw [e1, e2, hrow] at hev
        refine ⟨_, _, hev, hnew (S.kill id) rfl (fun j _ hne => by rw [AH.get_kill, if_neg hne]), Nat.le_succ _, fun j hj hne => ?_, fun j hj => ?_⟩
        · rw [AH.get_new, if_neg (by show j ≠ S.next; omega), AH.get_kill, if_neg (by simpa [vids] using hne)]
        · simp only [vids, List.mem_singleton] at hj
          subst hj
          exact ⟨Nat.lt_succ_self _, .inr (Nat.le_refl _)⟩
theorem wp_append (H : Cx B0 W S own ro) (n : Nat) {v x : AV} {es bytes : Nat} {L N : List (List AV)} (hm : own[n]? = some (.sl v es L)) (hx : elems S es x = some (N.length, N.flatten)) (hN : ∀ y ∈ N, y.length = es)
    (hb : (L.length + N.length) * bytes ≤ maxBytes) (hl : L.length + N.length ≤ maxLenN) (h : ∀ v1 S1, Cx B0 W S1 (own.set n (.sl v1 es (L ++ N))) ro → wp M (k v1) S1 Q) : wp M (.op (.append es bytes v x) k) S Q := by
  have hmem := List.mem_of_getElem? hm
  obtain ⟨v1, S1, h1, h2, h3, h4, h5⟩ := e_append (M := M) (H.oh _ hmem) hx hN hb hl (fun id hid => (H.oi _ hmem id hid).1)
  exact wp_op h1 (h v1 S1 (H.step hm h3 h4 h2 h5))
theorem wp_appendR (H : Cx B0 W S own ro) (n : Nat) {v x : AV} {es bytes : Nat} {L N : List (List AV)} (hm : own[n]? = some (.sl v es L)) (hx : Fct.sl x es N ∈ ro) (hN : ∀ y ∈ N, y.length = es)
    (hb : (L.length + N.length) * bytes ≤ maxBytes) (hl : L.length + N.length ≤ maxLenN) (h : ∀ v1 S1, Cx B0 W S1 (own.set n (.sl v1 es (L ++ N))) ro → wp M (k v1) S1 Q) : wp M (.op (.append es bytes v x) k) S Q :=
  wp_append H n hm (slOk_elems (H.rh _ hx)) hN hb hl h

/-! ### calls -/
theorem wp_callG (H : Cx B0 W S own ro) {f : AV} {args : List AV} {R : AV → Prop} (hc : wpC M f args S fun v S' => R v ∧ Grows S S') (h : ∀ v S1, R v → Cx B0 W S1 own ro → wp M (k v) S1 Q) : wp M (.call f args k) S Q :=
  wp_call (wpC_mono hc fun v S1 ⟨h1, h2⟩ => h v S1 h1 (H.grow h2))
theorem wp_callV (H : Cx B0 W S own ro) {f : AV} {args : List AV} {u : AV} (hc : wpC M f args S fun v S' => v = u ∧ Grows S S') (h : ∀ S1, Cx B0 W S1 own ro → wp M (k u) S1 Q) : wp M (.call f args k) S Q :=
  wp_callG H hc fun v S1 e K => e ▸ h S1 K
end
end
end Go.Abs
namespace Go.Abs
noncomputable section
set_option linter.unusedVariables false

/-! ### functions that laws share, by their shapes -/
def RoSl (S : AH) (v : AV) (es : Nat) (L : List (List AV)) : Prop := slOk S v es L ∧ ∀ id ∈ vids v, id < S.next
theorem RoSl.grow {S S1 : AH} {v : AV} {es : Nat} {L : List (List AV)} (h : RoSl S v es L) (hg : Grows S S1) : RoSl S1 v es L :=
  ⟨slOk_same (fun id hid => hg.old id (h.2 id hid)) h.1, fun id hid => Nat.lt_of_lt_of_le (h.2 id hid) hg.next⟩
theorem Cx.ro1 {S : AH} {v : AV} {es : Nat} {L : List (List AV)} (h : RoSl S v es L) : Cx S [] S [] [.sl v es L] := Cx.enter (by
  intro φ hφ
  simp only [List.mem_singleton] at hφ
  subst hφ
  exact ⟨h.1, h.2⟩)
theorem Cx.ro2 {S : AH} {v v' : AV} {es es' : Nat} {L L' : List (List AV)} (h : RoSl S v es L) (h' : RoSl S v' es' L') : Cx S [] S [] [.sl v es L, .sl v' es' L'] := Cx.enter (by
  intro φ hφ
  simp only [List.mem_cons, List.not_mem_nil, or_false] at hφ
  rcases hφ with rfl | rfl
  · exact ⟨h.1, h.2⟩
  · exact ⟨h'.1, h'.2⟩)
theorem Cx.roSl {B S : AH} {M : List Nat} {own : List Own} {ro : List Fct} (H : Cx B M S own ro) {v : AV} {es : Nat} {L : List (List AV)} (hm : Fct.sl v es L ∈ ro) : RoSl S v es L := ⟨H.rh _ hm, fun id hid => (H.ri _ hm id hid).1⟩
theorem Cx.ownSl {B S : AH} {M : List Nat} {own : List Own} {ro : List Fct} (H : Cx B M S own ro) {n : Nat} {v : AV} {es : Nat} {L : List (List AV)} (hm : own[n]? = some (.sl v es L)) : RoSl S v es L :=
  ⟨ownSl_ok (H.oh _ (List.mem_of_getElem? hm)), fun id hid => (H.oi _ (List.mem_of_getElem? hm) id hid).1⟩
def ints (l : List Int) : List (List AV) := l.map fun n => [I n]
theorem ints_len (l : List Int) : (ints l).length = l.length := List.length_map ..

section
variable {M : Mach} {S : AH} {f : FuncId}

theorem wpL_for {body : List AV → AC} {Q : Post} (n : Nat) (J : Nat → List AV → AH → Prop) (hs : ∀ i vs S, i < n → J i vs S → wp M (body vs) S fun t vs1 S1 => (t = .normal ∧ J (i + 1) vs1 S1) ∨ (t ≠ .normal ∧ Q t vs1 S1))
    (he : ∀ vs S, J n vs S → wp M (body vs) S fun t vs1 S1 => t ≠ .normal ∧ Q t vs1 S1) {vs : List AV} {S : AH} (h : J 0 vs S) : wpL M body vs S Q := by
  refine wpL_inv (fun m vs S => ∃ i, i ≤ n ∧ m = n - i ∧ J i vs S) ?_ n ⟨0, by omega, by omega, h⟩
  rintro m vs S ⟨i, hi, rfl, hJ⟩
  by_cases hlt : i < n
  · refine wp_mono (hs i vs S hlt hJ) fun t vs1 S1 q => ?_
    rcases q with ⟨h1, h2⟩ | q
    · exact .inl ⟨h1, n - (i + 1), by omega, i + 1, by omega, rfl, h2⟩
    · exact .inr q
  · have : i = n := by omega
    subst this
    exact wp_mono (he vs S hJ) fun t vs1 S1 q => .inr q
def pick (x n : Int) : Int := if n ≤ 0 then 0 else x % n
def pickB : List AV → AC := fun v0 => .op (.bin .leq (nth v0 1) (I 0)) fun v1 => .ite v1 (.ret .ret [(I 0)]) (.op (.bin .rem (nth v0 0) (nth v0 1)) fun v2 => .op (.bin .lss v2 (I 0)) fun v3 => .bind (.ite v3 (.op (.bin .add v2 (nth v0 1)) fun v4 => .ret .normal [v4]) (.ret .normal [v2])) none (fun v4 => .ret .ret [(nth v4 0)]) (fun v4 => [(I 0)]))
theorem pick_ok {x n : Int} (hk : M.kn f [I x, I n] = none) (hb : M.tbl f = some pickB) (hn : n ≤ 9223372036854775807) : wpC M (.fn (.func f) [] []) [I x, I n] S fun r S' => r = I (pick x n) ∧ S' = S := by
  refine wpC_fn hk hb ?_
  unfold pickB pick
  refine wp_leq (fun h => ?_) (fun h => ?_)
  · rw [if_pos h]
    exact wp_ite_t (wp_ret ⟨rfl, rfl, rfl⟩)
  · rw [if_neg (by omega)]
    have e := Int.tmod_eq_emod (a := x) (b := n)
    have h1 := Int.emod_nonneg x (by omega : n ≠ 0)
    have h2 := Int.emod_lt_of_pos x (by omega : 0 < n)
    refine wp_ite_f (wp_rem (by omega) ?_)
    refine wp_lss (fun hl => ?_) (fun hl => ?_)
    · refine wp_bind (wp_ite_t (wp_add64 ?_ ?_ (wp_ret (wp_ret ⟨rfl, ?_, rfl⟩))))
      · show _ ≤ x.tmod n + n
        split at e <;> omega
      · show x.tmod n + n ≤ _
        split at e <;> omega
      · show I (x.tmod n + n) = _
        congr 2
        split at e
        · omega
        · rw [e]; omega
    · refine wp_bind (wp_ite_f (wp_ret (wp_ret ⟨rfl, ?_, rfl⟩)))
      show I (x.tmod n) = _
      congr 2
      split at e <;> omega

theorem Cx.own1 {S : AH} {v : AV} {es : Nat} {L : List (List AV)} (h : slW S v es L) (hid : ∀ id ∈ vids v, id < S.next) : Cx S (vids v) S [.sl v es L] [] where
  next := Nat.le_refl _
  old := fun _ _ _ => rfl
  oh := fun x hx => by simp only [List.mem_singleton] at hx; subst hx; exact h
  oi := fun x hx id h => by simp only [List.mem_singleton] at hx; subst hx; exact ⟨hid id h, fun _ => h⟩
  od := List.pairwise_singleton _ _
  rh := fun _ h => by simp at h
  ri := fun _ h => by simp at h
theorem slForm_sub {v : AV} {es n id off i : Nat} {c : List AV} (h : slForm v es n id off c) (hi : i ≤ n) : ∃ v', evalOp M.P (.sslice es v none (some (I (i : Int))) none) S = some (v', S) ∧ slForm v' es i id off c := by
  rcases h with ⟨cap, q1, q2, rfl⟩ | ⟨cmin, q1, q2, rfl⟩
  · refine ⟨.sl id off i cap, ?_, .inl ⟨cap, by omega, q2, rfl⟩⟩
    show pur (pSslice es (.sl id off n cap) none (some (I (i : Int))) none) S = _
    have hb : bnds none (some (I (i : Int))) none n cap = some (0, i, cap) := by
      have h1 : below i (Nat.succ cap) = some i := by unfold below; rw [ble_t (by omega)]
      show (match (match bndO (some (I (i : Int))) n cap with | some h => _ | none => none) with | r => r) = _
      have h2 : bndO (some (I (i : Int))) n cap = some i := h1
      rw [h2]; rfl
    unfold pSslice
    simp only [hb]
    have e : (if Nat.beq cap 0 = true then off else Nat.add off (Nat.mul 0 es)) = off := by
      split
      · rfl
      · show off + 0 * es = off; omega
    rw [e]; rfl
  · refine ⟨.op id off i cmin es, ?_, .inr ⟨cmin, by omega, q2, rfl⟩⟩
    show pur (pSslice es (.op id off n cmin es) none (some (I (i : Int))) none) S = _
    have hb : bnds none (some (I (i : Int))) none n cmin = some (0, i, cmin) := by
      have h1 : below i (Nat.succ cmin) = some i := by unfold below; rw [ble_t (by omega)]
      show (match (match bndO (some (I (i : Int))) n cmin with | some h => _ | none => none) with | r => r) = _
      have h2 : bndO (some (I (i : Int))) n cmin = some i := h1
      rw [h2]; rfl
    unfold pSslice
    simp only [hb, Nat.beq_refl]
    have e : Nat.add off (Nat.mul 0 es) = off := by show off + 0 * es = off; omega
    rw [e]; rfl
theorem wp_push {B0 : AH} {W : List Nat} {own : List Own} {ro : List Fct} {Q : Post} {k : AV → AC} (H : Cx B0 W S own ro) (n : Nat) {v x : AV} {es bytes : Nat} {z : List AV} {L : List (List AV)} (hm : own[n]? = some (.sl v es L)) (ho : odd x = false) (hx : x.cells.length = es) (hz : z.length = es)
    (hb : (L.length + 1) * bytes ≤ maxBytes) (hl : L.length + 1 ≤ maxLenN) (h : ∀ v1 S1, Cx B0 W S1 (own.set n (.sl v1 es (L ++ [x.cells]))) ro → wp M (k v1) S1 Q) :
    wp M (.op (.bslice es 1 z [(0, es, x)]) fun t => .op (.append es bytes v t) k) S Q := by
  refine wp_op (v := .sl S.next 0 1 1) (S1 := S.new (.row x.cells)) ?_ ?_
  · show nBslice es 1 z [(0, es, x)] S = _
    unfold nBslice
    have e0 : repZero z 1 = z := by simp [repZero, appL_eq]
    have e1 : (not (odd x) && Nat.beq (lenL x.cells) es && Nat.ble (Nat.add 0 es) (lenL z)) = true := by
      rw [lenL_eq, lenL_eq, hx, hz, Nat.beq_refl, ho]
      have : Nat.ble (Nat.add 0 es) es = true := ble_t (by show 0 + es ≤ es; omega)
      rw [this]; rfl
    have e2 : setRange z 0 x.cells = x.cells := by rw [setRange_eq]; simp; omega
    have e3 : (Nat.beq (lenL x.cells) (Nat.mul 1 es) && Nat.beq (lenL z) es) = true := by
      rw [lenL_eq, lenL_eq, hx, hz, Nat.beq_refl]
      have : Nat.mul 1 es = es := Nat.one_mul es
      rw [this, Nat.beq_refl]; rfl
    rw [e0]
    simp only [fillP, e1, e2, e3]
    rfl
  · have K := H.grow (Grows.new S (.row x.cells))
    have hel : elems (S.new (.row x.cells)) es (.sl S.next 0 1 1) = some ([x.cells].length, [x.cells].flatten) := by
      refine slOk_elems (L := [x.cells]) (.inr ⟨S.next, 0, x.cells, .inl ⟨1, Nat.le_refl _, by rw [hx]; omega, rfl⟩, row_cells (get_new_same _ _), ?_, ?_⟩)
      · simp [← hx]
      · intro y hy; simp at hy; subst hy; exact hx
    exact wp_append K n hm hel (fun y hy => by simp at hy; subst hy; exact hx) hb hl h
/-! ### a read that is looked at again -/
theorem beq_num {κ : IntKind} {a : Int} : AV.beq (Z κ a) (Z κ a) = true := by
  show (kindEq κ κ && eqF a a) = true
  rw [kindEq_refl, eqF_eq]; simp
theorem beq_agg {l : List AV} (h : ∀ x ∈ l, AV.beq x x = true) : AV.beq (.agg l) (.agg l) = true := by
  show beqs l l = true
  induction l with
  | nil => rfl
  | cons x l ih =>
    show (AV.beq x x && beqs l l) = true
    rw [h x (by simp), ih fun y hy => h y (by simp [hy])]; rfl
theorem wp_chk1 {B0 : AH} {W : List Nat} {own : List Own} {ro : List Fct} {Q : Post} {k : AC} (H : Cx B0 W S own ro) {id off j : Nat} {cs : List AV} {v : AV} (hm : Fct.pt id off cs ∈ ro) (hj : cs[j]? = some v) (hb : AV.beq v v = true) (h : wp M k S Q) :
    wp M (.chk (.load 1 false (.ptr id (Nat.add off j))) v k) S Q := by
  obtain ⟨c, h1, h2⟩ := pt_get (H.rh _ hm) hj
  refine wp_chk (v' := v) ?_ hb h
  show (match S.cells? id with | some c => mkPart false c (Nat.add off j) 1 | none => none) = _
  rw [h1]; exact mkPart_one h2
theorem wp_chkn {B0 : AH} {W : List Nat} {own : List Own} {ro : List Fct} {Q : Post} {k : AC} (H : Cx B0 W S own ro) {id off j n : Nat} {cs l : List AV} (hm : Fct.pt id off cs ∈ ro) (hj : j + n ≤ cs.length) (hl : (cs.drop j).take n = l) (hb : ∀ x ∈ l, AV.beq x x = true) (h : wp M k S Q) :
    wp M (.chk (.load n true (.ptr id (Nat.add off j))) (.agg l) k) S Q := by
  obtain ⟨c, h1, h2, h3⟩ := pt_agg (H.rh _ hm) hj
  refine wp_chk (v' := .agg l) ?_ (beq_agg hb) h
  show (match S.cells? id with | some c => mkPart true c (Nat.add off j) n | none => none) = _
  rw [h1, ← hl, ← h3]; exact mkPart_agg h2
theorem wp_callN {B0 : AH} {W : List Nat} {own : List Own} {ro : List Fct} {Q : Post} {k : AV → AC} (H : Cx B0 W S own ro) {g : AV} {args : List AV} {es : Nat} {L : List (List AV)}
    (hc : wpC M g args S fun r S' => Cx S [] S' [.sl r es L] []) (h : ∀ v S1, Cx B0 W S1 (.sl v es L :: own) ro → wp M (k v) S1 Q) : wp M (.call g args k) S Q :=
  wp_call (wpC_mono hc fun v S1 K => h v S1 (H.addOwn K.grows (K.oh _ (List.Mem.head _)) fun id hid => by
    have := K.oi _ (List.Mem.head _) id hid
    refine ⟨?_, this.1⟩
    have h2 := this.2
    by_cases hlt : id < S.next
    · have := h2 hlt; simp at this
    · omega))

def sameB (es : Nat) (cmp : AV → AV → (AV → AC) → AC) : List AV → AC := fun v0 => .op (.len false (nth v0 0)) fun v1 => .op (.len false (nth v0 1)) fun v2 => .op (.bin .eql v1 v2) fun v3 => .bind (.loop [(I 0), v3] (fun v4 => .gop (nth v4 1) true (.mv (nth v4 0)) fun v5 => .gop (nth v4 1) true (.mv (nth v0 0)) fun v6 => .gop (nth v4 1) true (.len false v6) fun v7 => .gop (nth v4 1) true (.bin .lss v5 v7) fun v8 => .op (.pick (nth v4 1) v8 (B false)) fun v9 => .ite v9 (.bind (.op (.saddr es (nth v0 0) (nth v4 0)) fun v10 => .op (.load es (Nat.blt 1 es) v10) fun v11 => .op (.saddr es (nth v0 1) (nth v4 0)) fun v12 => .op (.load es (Nat.blt 1 es) v12) fun v13 => cmp v11 v13 fun v14 => .ret .normal [v14]) (some 3) (fun v10 => .op (.bin .add (nth v4 0) (I 1)) fun v11 => .ret .normal [v11, (nth v10 0)]) (fun v10 => [(nth v4 0), (nth v10 0)])) (.ret (.exit 0) [(nth v4 0), (nth v4 1)])) (fun v4 => [(nth v4 0), (nth v4 1)])) (some 0) (fun v4 => .ret .ret [(nth v4 1)]) (fun v4 => [(B false)])
theorem same_ok {es : Nat} {cmp : AV → AV → (AV → AC) → AC} {v v' : AV} {L : List (List AV)} (hk : M.kn f [v, v'] = none) (hb : M.tbl f = some (sameB es cmp)) (h : RoSl S v es L) (h' : RoSl S v' es L) (hl : L.length < 4611686018427387904)
    (ld : AV → Prop) (hld : ∀ x ∈ L, ∀ {id off S1 k Q}, (Fct.pt id off x).holds S1 → (∀ a, a = (if Nat.blt 1 es then .agg x else x.headD .no) → wp M (k a) S1 Q) → wp M (.op (.load es (Nat.blt 1 es) (.ptr id off)) k) S1 Q)
    (hc : ∀ x ∈ L, ∀ {S1 k Q}, wp M (k (B true)) S1 Q → wp M (cmp (if Nat.blt 1 es then .agg x else x.headD .no) (if Nat.blt 1 es then .agg x else x.headD .no) k) S1 Q) :
    wpC M (.fn (.func f) [] []) [v, v'] S fun r S' => r = B true ∧ Grows S S' := by
  refine wpC_fn hk hb ?_
  unfold sameB
  have H := Cx.ro2 h h'
  refine wp_len H (List.Mem.head _) (wp_len H (List.Mem.tail _ (List.Mem.head _)) (wp_eql_t rfl ?_))
  refine wp_bind (wp_loop (wpL_inv (fun m vs S1 => ∃ i : Nat, vs = [I (i : Int), B true] ∧ i ≤ L.length ∧ m = L.length - i ∧ Cx S [] S1 [] [.sl v es L, .sl v' es L]) ?_ L.length ⟨0, rfl, by omega, by omega, H⟩))
  rintro m vs S1 ⟨i, rfl, hi, rfl, H⟩
  refine wp_gop_t (wp_op rfl (wp_gop_t (wp_op rfl (wp_gop_t (wp_len H (List.Mem.head _) (wp_gop_t ?_))))))
  refine wp_lss (fun hlt => ?_) (fun hge => ?_)
  · have hlt : i < L.length := by omega
    have hx : L[i] ∈ L := List.getElem_mem hlt
    refine wp_op (v := B true) rfl (wp_ite_t (wp_bind ?_))
    refine wp_saddr (i := i) H (List.Mem.head _) (List.getElem?_eq_getElem hlt) fun p off H1 => ?_
    refine hld _ hx (H1.rh _ (List.Mem.head _)) fun a ha => ?_
    refine wp_saddr (i := i) H1.tl (List.Mem.tail _ (List.Mem.head _)) (List.getElem?_eq_getElem hlt) fun p' off' H2 => ?_
    refine hld _ hx (H2.rh _ (List.Mem.head _)) fun b hb' => ?_
    subst ha hb'
    refine hc _ hx (wp_ret ?_)
    show wp M _ S1 _
    refine wp_add64 (by omega) (by omega) (wp_ret (.inl ⟨rfl, L.length - (i + 1), by omega, i + 1, rfl, by omega, rfl, H2.tl⟩))
  · refine wp_op (v := B false) rfl (wp_ite_f (wp_ret (.inr ⟨by simp, wp_ret ⟨rfl, rfl, H.grows⟩⟩)))
end
end
end Go.Abs
namespace Go.Abs
noncomputable section
set_option linter.unusedVariables false

/-! ### maps with numbers for keys -/
def mget : List (Int × AV) → Int → Option AV
  | [], _ => none
  | (k', v) :: r, k => if k' = k then some v else mget r k
def mset : List (Int × AV) → Int → AV → List (Int × AV)
  | [], k, v => [(k, v)]
  | (k', v') :: r, k, v => if k' = k then (k, v) :: r else (k', v') :: mset r k v
def ment (m : List (Int × AV)) : List (Value × AV) := m.map fun p => (.int .i64 p.1, p.2)
theorem mget_mset (m : List (Int × AV)) (k k' : Int) (v : AV) : mget (mset m k v) k' = if k = k' then some v else mget m k' := by
  induction m with
  | nil => simp [mset, mget]
  | cons p r ih =>
    obtain ⟨a, b⟩ := p
    unfold mset
    by_cases h : a = k
    · rw [if_pos h]
      by_cases h2 : k = k'
      · simp [mget, h2]
      · simp [mget, h2, h]
    · rw [if_neg h]
      simp only [mget]
      rw [ih]
      by_cases h2 : a = k'
      · subst h2
        rw [if_pos rfl, if_pos rfl, if_neg (fun e => h e.symm)]
      · rw [if_neg h2, if_neg h2]

section
variable {M : Mach} {B0 S : AH} {W : List Nat} {own : List Own} {ro : List Fct} {Q : Post} {k : AV → AC}
def mfind : List (Int × AV) → Int → Nat → Option (Nat × AV)
  | [], _, _ => none
  | (k', v) :: r, k, i => if k' = k then some (i, v) else mfind r k (i + 1)
theorem findE_int {P : Program} {kt : TypeId} (hk : P.underlying kt = some (.int .i64)) (key : Int) : ∀ (m : List (Int × AV)) (i : Nat), findE P kt (.int .i64 key) (ment m) i = some (mfind m key i)
  | [], i => rfl
  | (a, v) :: r, i => by
    have ih := findE_int hk key r (i + 1)
    have e : keyEq P kt (.int .i64 key) (.int .i64 a) = some (decide (a = key)) := by
      unfold keyEq
      rw [hk]
      show (if kindEq .i64 .i64 = true then some (eqF key a) else none) = _
      rw [kindEq_refl, if_pos rfl, eqF_eq]
      by_cases h : key = a
      · subst h; simp
      · rw [beq_eq_false_iff_ne.2 h, decide_eq_false (fun e => h e.symm)]
    show findE P kt (.int .i64 key) ((.int .i64 a, v) :: ment r) i = _
    unfold findE mfind
    rw [e]
    by_cases h : a = key
    · simp [h]
    · simp only [h, decide_false, if_false]; exact ih
theorem mfind_get (key : Int) : ∀ (m : List (Int × AV)) (i : Nat), (mfind m key i).map (·.2) = mget m key
  | [], i => rfl
  | (a, v) :: r, i => by
    unfold mfind mget
    by_cases h : a = key
    · simp [h]
    · simp only [h, if_false]; exact mfind_get key r (i + 1)
theorem mfind_set (key : Int) (v : AV) : ∀ (m : List (Int × AV)) (i : Nat), match mfind m key i with
    | some (j, _) => i ≤ j ∧ (ment m)[j - i]?.map (·.1) = some (.int .i64 key) ∧ (ment m).set (j - i) (.int .i64 key, v) = ment (mset m key v)
    | none => ment (mset m key v) = ment m ++ [(.int .i64 key, v)]
  | [], i => by simp [mfind, mset, ment]
  | (a, u) :: r, i => by
    have ih := mfind_set key v r (i + 1)
    unfold mfind mset
    by_cases h : a = key
    · simp [h, ment]
    · simp only [h, if_false]
      cases hf : mfind r key (i + 1) with
      | none =>
        rw [hf] at ih
        simp only at ih ⊢
        simp only [ment, List.map_cons, List.cons_append] at ih ⊢
        rw [ih]
      | some q =>
        obtain ⟨j, w⟩ := q
        rw [hf] at ih
        simp only at ih ⊢
        obtain ⟨h1, h2, h3⟩ := ih
        have e : j - i = (j - (i + 1)) + 1 := by omega
        rw [e]
        refine ⟨by omega, ?_, ?_⟩
        · simpa [ment] using h2
        · simp only [ment, List.map_cons, List.set_cons_succ] at h3 ⊢
          rw [h3]
theorem keyOk_int {P : Program} {kt : TypeId} (hk : P.underlying kt = some (.int .i64)) {e : Bool} {key : Int} : keyOk P kt e (.int .i64 key) = true := by
  unfold keyOk
  have : pureRun P (Instr.checkKey e 10000 kt (.int .i64 key)) = some () := by
    show pureRun P (Instr.checkKey e (9999 + 1) kt (.int .i64 key)) = _
    unfold Instr.checkKey
    rw [pureRun_bind (pureRun_underlying hk)]
    rfl
  rw [this]; rfl
theorem e_lookup {kt : TypeId} (hk : M.P.underlying kt = some (.int .i64)) {id : Nat} {m : List (Int × AV)} {ok : Bool} {zero : AV} {key : Int} (hg : S.get id = some (.map (ment m))) :
    evalOp M.P (.lookup kt ok zero (.map id) (I key)) S = some (match mget m key with | some v => (if ok then .tup [v, B true] else v) | none => (if ok then .tup [zero, B false] else zero), S) := by
  show pur (rLookup M.P S kt ok zero (.map id) (I key)) S = _
  have h1 : toV (I key) = some (.int .i64 key) := by simp [toV]
  have h2 : mapOf S (.map id) = some (ment m) := by unfold mapOf; simp only [hg]
  have h3 := mfind_get key m 0
  have : rLookup M.P S kt ok zero (.map id) (I key) = some (match mget m key with | some v => (if ok then .tup [v, B true] else v) | none => (if ok then .tup [zero, B false] else zero)) := by
    unfold rLookup
    rw [h1, h2]
    simp only [keyOk_int hk, if_true, findE_int hk]
    cases hf : mfind m key 0 with
    | none => rw [hf] at h3; simp only [Option.map_none] at h3; rw [← h3]
    | some q => rw [hf] at h3; obtain ⟨j, w⟩ := q; simp only [Option.map_some] at h3; rw [← h3]
  rw [this]; rfl
theorem wp_lookup2 (H : Cx B0 W S own ro) (n : Nat) {kt : TypeId} (hk : M.P.underlying kt = some (.int .i64)) {id : Nat} {m : List (Int × AV)} {zero : AV} {key : Int} (hm : own[n]? = some (.obj id (.map (ment m))))
    (h : wp M (k (.tup [(mget m key).getD zero, B (mget m key).isSome])) S Q) : wp M (.op (.lookup kt true zero (.map id) (I key)) k) S Q := by
  refine wp_op (e_lookup hk (H.oh _ (List.mem_of_getElem? hm))) ?_
  cases hg : mget m key with
  | none => rw [hg] at h; exact h
  | some v => rw [hg] at h; exact h
theorem wp_mapset (H : Cx B0 W S own ro) (n : Nat) {kt : TypeId} (hk : M.P.underlying kt = some (.int .i64)) {id : Nat} {m : List (Int × AV)} {key : Int} {v : AV} (hm : own[n]? = some (.obj id (.map (ment m))))
    (h : ∀ S1, Cx B0 W S1 (own.set n (.obj id (.map (ment (mset m key v))))) ro → wp M (k uv) S1 Q) : wp M (.op (.mapset kt (.map id) (I key) v) k) S Q := by
  have hg : S.get id = some (.map (ment m)) := H.oh _ (List.mem_of_getElem? hm)
  refine wp_op (v := uv) (S1 := S.set id (.map (ment (mset m key v)))) ?_ (h _ (H.step hm (Nat.le_refl _) ?_ ?_ ?_))
  · show eMapset M.P kt (.map id) (I key) v S = _
    unfold eMapset
    have h1 : toV (I key) = some (.int .i64 key) := by simp [toV]
    rw [h1]
    simp only [hg, keyOk_int hk, if_true, findE_int hk]
    have hs := mfind_set key v m 0
    cases hf : mfind m key 0 with
    | none => rw [hf] at hs; simp only at hs ⊢; rw [hs]
    | some q =>
      rw [hf] at hs
      obtain ⟨j, w⟩ := q
      simp only [Nat.sub_zero] at hs ⊢
      obtain ⟨_, h2, h3⟩ := hs
      cases hj : (ment m)[j]? with
      | none => rw [hj] at h2; cases h2
      | some p =>
        obtain ⟨k', w'⟩ := p
        rw [hj] at h2
        simp only [Option.map_some, Option.some.injEq] at h2
        subst h2
        have hsb : Instr.sameBits 10000 (.int .i64 key) (.int .i64 key) = true := by simp [Instr.sameBits]
        simp only [hsb, if_true, h3]
  · intro j hj hne
    rw [AH.get_set, if_neg (by simpa [Own.ids] using hne)]
  · show (S.set id _).get id = _
    rw [AH.get_set, if_pos rfl]
  · intro j hj
    simp only [Own.ids, List.mem_singleton] at hj
    subst hj
    exact ⟨(H.oi _ (List.mem_of_getElem? hm) j (by simp [Own.ids])).1, .inl (by simp [Own.ids])⟩
end
end
end Go.Abs
namespace Go.Abs
noncomputable section
set_option linter.unusedVariables false
section
variable {M : Mach} {B0 S : AH} {W : List Nat} {own : List Own} {ro : List Fct} {Q : Post} {k : AV → AC}

theorem Cx.setOb (H : Cx B0 W S own ro) {n id : Nat} {o : AO} (hm : own[n]? = some (.obj id o)) (o' : AO) : Cx B0 W (S.set id o') (own.set n (.obj id o')) ro := by
  refine H.step hm (Nat.le_refl _) (fun j hj hne => ?_) ?_ (fun j hj => ?_)
  · rw [AH.get_set, if_neg (by simpa [Own.ids] using hne)]
  · show (S.set id o').get id = _
    rw [AH.get_set, if_pos rfl]
  · simp only [Own.ids, List.mem_singleton] at hj
    subst hj
    exact ⟨(H.oi _ (List.mem_of_getElem? hm) j (by simp [Own.ids])).1, .inl (by simp [Own.ids])⟩
theorem Cx.dropAt (H : Cx B0 W S own ro) (n : Nat) : Cx B0 W S (own.eraseIdx n) ro := H.dropOwn (List.eraseIdx_sublist _ _)
theorem Cx.freezeOb (H : Cx B0 W S own ro) {i id : Nat} {o : AO} (hi : own[i]? = some (.obj id o)) : Cx B0 W S (own.eraseIdx i) (.ob id o :: ro) := by
  have hmem := List.mem_of_getElem? hi
  refine (H.dropAt i).addRo (H.oh _ hmem) fun j hj => ?_
  simp only [Fct.ids, List.mem_singleton] at hj
  subst hj
  refine ⟨(H.oi _ hmem j (by simp [Own.ids])).1, fun x hx hj => ?_⟩
  obtain ⟨m, hm⟩ := List.getElem?_of_mem hx
  have hp := H.od
  rw [List.pairwise_iff_getElem] at hp
  obtain ⟨hi1, hi2⟩ := List.getElem?_eq_some_iff.1 hi
  rw [List.getElem?_eraseIdx] at hm
  split at hm
  · rename_i hlt
    obtain ⟨hm1, hm2⟩ := List.getElem?_eq_some_iff.1 hm
    exact hp m i hm1 hi1 hlt j (by rw [hm2]; exact hj) (by rw [hi2]; simp [Own.ids])
  · obtain ⟨hm1, hm2⟩ := List.getElem?_eq_some_iff.1 hm
    exact hp i (m + 1) hi1 hm1 (by omega) j (by rw [hi2]; simp [Own.ids]) (by rw [hm2]; exact hj)
theorem Cx.toRo (H : Cx B0 W S own ro) {i : Nat} {v : AV} {es : Nat} {L : List (List AV)} (hi : own[i]? = some (.sl v es L)) : Cx B0 W S (own.eraseIdx i) (.sl v es L :: ro) := by
  have hmem := List.mem_of_getElem? hi
  refine (H.dropAt i).addRo (ownSl_ok (H.oh _ hmem)) fun j hj => ?_
  refine ⟨(H.oi _ hmem j hj).1, fun x hx hjx => ?_⟩
  obtain ⟨m, hm⟩ := List.getElem?_of_mem hx
  have hp := H.od
  rw [List.pairwise_iff_getElem] at hp
  obtain ⟨hi1, hi2⟩ := List.getElem?_eq_some_iff.1 hi
  rw [List.getElem?_eraseIdx] at hm
  split at hm
  · rename_i hlt
    obtain ⟨hm1, hm2⟩ := List.getElem?_eq_some_iff.1 hm
    exact hp m i hm1 hi1 hlt j (by rw [hm2]; exact hjx) (by rw [hi2]; exact hj)
  · obtain ⟨hm1, hm2⟩ := List.getElem?_eq_some_iff.1 hm
    exact hp i (m + 1) hi1 hm1 (by omega) j (by rw [hi2]; exact hj) (by rw [hm2]; exact hjx)
theorem wp_startO (H : Cx B0 W S own ro) (n : Nat) {l m : Nat} {k : AC} {pend : Option Tag} {b : List AV → AC} (hm : own[n]? = some (.obj l (.loop .ready pend m b)))
    (h : ∀ S1, Cx B0 W S1 (own.set n (.obj l (.loop .busy pend m b))) ro → wp M k S1 Q) : wp M (.start (.yd l) k) S Q :=
  wp_start (H.oh _ (List.mem_of_getElem? hm)) (h _ (H.setOb hm _))
theorem wp_rngO (H : Cx B0 W S own ro) {m : Nat} {f : AV} {body : List AV → AC} {kk : AC} {outs : List AV} (hf : ∀ i, f ≠ .yd i) (Done : AH → Prop)
    (hc : ∀ l S1, Cx B0 W S1 (.obj l (.loop .ready none m body) :: own) ro → wpC M f [.yd l] S1 fun _ S' => S'.get l = some (.loop .ready none m body) ∧ ∀ S2, S2.next = S'.next → (∀ j, j ≠ l → S2.get j = S'.get j) → Done S2)
    (h : ∀ S2, Done S2 → wp M kk S2 Q) : wp M (.rng m f body kk outs) S Q := by
  refine wp_rng hf (wpC_mono (hc S.next _ (H.addOwn (Grows.new S _) (get_new_same _ _) ?_)) fun v S' ⟨h1, h2⟩ => ⟨.ready, none, m, body, h1, by simp, h _ (h2 _ rfl fun j hj => by rw [AH.get_set, if_neg hj])⟩)
  intro j hj
  simp only [Own.ids, List.mem_singleton] at hj
  subst hj
  exact ⟨Nat.le_refl _, by simp⟩
theorem Cx.other {B0 S S1 : AH} {W : List Nat} {own : List Own} {ro : List Fct} (H : Cx B0 W S own ro) {l : Nat} {n : Nat} {o : AO} (hm : own[n]? = some (.obj l o)) (h1 : S1.next = S.next) (h2 : ∀ j, j ≠ l → S1.get j = S.get j) : Cx B0 W S1 (own.eraseIdx n) ro := by
  have hmem := List.mem_of_getElem? hm
  have K := H.freezeOb hm
  have K' : Cx B0 W S (own.eraseIdx n) ro := K.tl
  have hl : ∀ x ∈ own.eraseIdx n, l ∉ x.ids := (K.ri _ (List.Mem.head _) l (by simp [Fct.ids])).2
  have hro : ∀ φ ∈ ro, l ∉ φ.ids := fun φ hφ hid => (H.ri φ hφ l hid).2 _ hmem (by simp [Own.ids])
  refine ⟨by rw [h1]; exact K'.next, fun id h3 h4 => ?_, fun x hx => Own.holds_same (fun id hid => h2 id fun e => hl x hx (e ▸ hid)) (K'.oh x hx), fun x hx id hid => by rw [h1]; exact K'.oi x hx id hid, K'.od,
    fun φ hφ => Fct.holds_same (fun id hid => h2 id fun e => hro φ hφ (e ▸ hid)) (K'.rh φ hφ), fun φ hφ id hid => by rw [h1]; exact K'.ri φ hφ id hid⟩
  by_cases e : id = l
  · subst e
    exact absurd ((H.oi _ hmem id (by simp [Own.ids])).2 h3) h4
  · rw [h2 id e]; exact K'.old id h3 h4
theorem wpC_ydO (H : Cx B0 W S own ro) (n : Nat) {l m : Nat} {args : List AV} {body : List AV → AC} {R : AH → Prop} (hm : own[n]? = some (.obj l (.loop .ready none m body))) (hl : args.length = m)
    (h : wp M (body (.yd l :: args)) S fun t _ S' => t = .normal ∧ ∃ own' ro', Cx B0 W S' own' ro' ∧ own'[n]? = some (.obj l (.loop .busy none m body)) ∧ ∀ S2, Cx B0 W S2 (own'.set n (.obj l (.loop .ready none m body))) ro' → R S2) :
    wpC M (.yd l) args S fun v S' => v = B true ∧ R S' := by
  refine wpC_yd (H.oh _ (List.mem_of_getElem? hm)) hl (wp_mono h fun t vs S' q => ?_)
  obtain ⟨rfl, own', ro', H', hm', hR⟩ := q
  exact ⟨none, m, body, H'.oh _ (List.mem_of_getElem? hm'), rfl, hR _ (H'.setOb hm' _)⟩
end
end
end Go.Abs
namespace Go.Abs
noncomputable section
set_option linter.unusedSectionVars false
variable [Tok]
open Go.ChangeShapes Go.WideShapes
set_option linter.unusedVariables false

/-! ### arguments, opened -/
section
variable {H : Type} {enc : TypeId × Value → H} {P : Program} {W : World} {base : Nat} {sp : Nat → Bool} {hd : Bool}

def inR : Value → Bool
  | .int k n => (Lit.int k n).wf
  | _ => true
theorem cellsOf_size {t : TypeId} {n : Nat} (h : sizeT P t = some n) : P.cellsOf t = n := by
  unfold sizeT at h
  unfold Program.cellsOf
  rw [h]; rfl
theorem cellsK_of {ks : List (Option IntKind)} : ∀ {ls : List (Option IntKind)} {vs : List Value}, cellsK ks (vs.take ks.length) = true → cellsK ls (vs.drop ks.length) = true → cellsK (ks ++ ls) vs = true := by
  induction ks with
  | nil => intro ls vs h1 h2; simpa using h2
  | cons k ks ih =>
    intro ls vs h1 h2
    cases vs with
    | nil => simp [cellsK] at h1
    | cons v vs =>
      simp only [List.length_cons, List.take_succ_cons, cellsK, Bool.and_eq_true, List.drop_succ_cons] at h1 h2
      simp only [List.cons_append, cellsK, Bool.and_eq_true]
      exact ⟨h1.1, ih h1.2 h2⟩
theorem flat_trod : ∀ (d : Nat) (t : TypeId) (ks : List (Option IntKind)), flatT P d t = some ks → sizeT P t = some ks.length → ∀ (fuel : Nat) (cs : List Value) (x : DataW H × List MemPlace), DataW.trod enc P W base sp hd fuel t cs = some x → cellsK ks cs = true ∧ ∀ v ∈ cs, inR v = true
  | 0, t, ks, hf, _, _, _, _, _ => by simp [flatT] at hf
  | d + 1, t, ks, hf, hst, fuel, cs, x, h => by
    unfold flatT at hf
    cases hu : P.underlying t with
    | none => rw [hu] at hf; cases hf
    | some u =>
      rw [hu] at hf
      cases u with
      | bool =>
        cases hf
        obtain ⟨b, rfl, _⟩ := DataW.trod_bool hu h
        exact ⟨rfl, by simp [inR]⟩
      | int k =>
        cases hf
        obtain ⟨n, rfl, _, hw⟩ := DataW.trod_int hu h
        exact ⟨by simp [cellsK, cellK], by simpa [inR] using hw⟩
      | struct fs =>
        simp only at hf
        cases hsi : P.stoodInHeld t with
        | true => rw [hsi] at hf; simp at hf
        | false =>
          rw [hsi] at hf
          simp only [Bool.false_eq_true, if_false] at hf
          obtain ⟨xs, n, _, _, hlen, _, hfl⟩ := DataW.trod_struct hu h
          rw [cellsOf_size hst] at hlen
          have key : ∀ (l : List Field) (i off : Nat) (ks : List (Option IntKind)), (∀ (j : Nat) f, l[j]? = some f → fs[i + j]? = some f) → flatF (flatT P d) P l off = some ks → off + ks.length = cs.length → cellsK ks (cs.drop off) = true ∧ ∀ v ∈ cs.drop off, inR v = true := by
            intro l
            induction l with
            | nil =>
              intro i off ks _ hf hl
              cases hf
              have : cs.drop off = [] := List.drop_eq_nil_of_le (by simp at hl; omega)
              rw [this]
              exact ⟨rfl, by simp⟩
            | cons f l ih =>
              intro i off ks hidx hf hl
              unfold flatF at hf
              by_cases hn : f.name = "_"
              · rw [if_pos hn] at hf; cases hf
              · rw [if_neg hn] at hf
                by_cases ho : f.offset ≠ off
                · rw [if_pos ho] at hf; cases hf
                · rw [if_neg ho] at hf
                  have ho : f.offset = off := by omega
                  cases hr : flatT P d f.type with
                  | none => rw [hr] at hf; cases hf
                  | some k1 =>
                    rw [hr] at hf
                    simp only at hf
                    by_cases hs : sizeT P f.type = some k1.length
                    · rw [if_pos hs] at hf
                      cases hrest : flatF (flatT P d) P l (off + k1.length) with
                      | none => rw [hrest] at hf; cases hf
                      | some k2 =>
                        rw [hrest] at hf
                        cases hf
                        rw [List.length_append] at hl
                        have h0 := hidx 0 f rfl
                        have h1 := hfl i f h0
                        rw [ho, cellsOf_size hs] at h1
                        cases hx : xs[i]? with
                        | none =>
                          rw [hx] at h1
                          have := (Array.getElem?_eq_some_iff.1 h0).1
                          have := List.getElem?_eq_none_iff.1 hx
                          omega
                        | some y =>
                          rw [hx] at h1
                          obtain ⟨q1, q2⟩ := flat_trod d f.type k1 hr hs n _ y h1
                          obtain ⟨r1, r2⟩ := ih (i + 1) (off + k1.length) k2 (fun j f hj => by
                            have := hidx (j + 1) f (by simpa using hj)
                            rwa [show i + (j + 1) = i + 1 + j by omega] at this) hrest (by omega)
                          rw [← List.drop_drop] at r1 r2
                          refine ⟨cellsK_of q1 r1, fun v hv => ?_⟩
                          rw [← List.take_append_drop k1.length (cs.drop off), List.mem_append] at hv
                          rcases hv with hv | hv
                          · exact q2 v hv
                          · exact r2 v hv
                    · rw [if_neg hs] at hf; cases hf
          have := key fs.toList 0 0 ks (fun j f hj => by simpa using hj) hf (by omega)
          simpa using this
      | _ => cases hf

theorem open_flat {t e : TypeId} {d : Nat} {ks : List (Option IntKind)} {v : Value} {x : DataW H} {p : List MemPlace} (ht : P.underlying t = some (.slice e)) (hf : flatT P d e = some ks) (hs : sizeT P e = some ks.length)
    (hok : Value.okWide P W .any base t v) (h : DataW.Trod enc P W 0 (fun _ => true) true t v x p) :
    v = .slice none 0 0 ∨ ∃ (b off len cap : Nat) (C : Nat → List Value), v = .slice (some ⟨b, off, none⟩) len cap ∧ len ≤ cap ∧ cap ≤ maxLen ∧ b < W.heap.size ∧
      ∀ i, i < cap → cellsK ks (C i) = true ∧ (∀ y ∈ C i, inR y = true) ∧ ∀ (j : Nat) y, (C i)[j]? = some y → W.cell? ⟨b, off + i * ks.length + j, none⟩ = some y := by
  obtain ⟨fuel, hr⟩ := h
  have hcl := cellsOf_size hs
  rcases DataW.trod_slice ht hr with ⟨h1, _⟩ | ⟨a, len, cap, elems, rest, n, _, h1, _, _, h2, h3, h4, h5, h6, _⟩
  · left
    cases v <;> simp [Value.cells] at h1
    · obtain ⟨rfl, rfl, rfl⟩ := h1; rfl
    · simp [Value.okWide, ht, Cell.okWide, Cell.ok] at hok
  · right
    have hv : v = .slice (some a) len cap := by
      cases v <;> simp [Value.cells] at h1
      · obtain ⟨rfl, rfl, rfl⟩ := h1; rfl
      · simp [Value.okWide, ht, Cell.okWide, Cell.ok] at hok
    subst hv
    have hhas : W.has P .any base a e cap := by
      simp only [Value.okWide, ht, Cell.okWide, Cell.ok] at hok
      exact hok.2.2
    obtain ⟨_, hspot, row, cells, hshape, _⟩ := hhas
    obtain ⟨b, off, s⟩ := a
    simp only at hspot
    subst hspot
    have hb : b < W.heap.size := by
      unfold World.shape? at hshape
      split at hshape
      · rename_i hh; exact (Array.getElem?_eq_some_iff.1 hh).1
      · cases hshape
    obtain ⟨h7, h8⟩ := h6 rfl
    have hall : ∀ i, i < cap → ∃ y, (W.cells? 0 (Addr.add ⟨b, off, none⟩ (i * P.cellsOf e)) (P.cellsOf e)).bind (DataW.trod enc P W 0 (fun _ => true) true n e) = some y := by
      intro i hi
      by_cases hl : i < len
      · rw [h5 i hl]
        exact ⟨elems[i]'(by omega), List.getElem?_eq_getElem (by omega)⟩
      · have := h8 (i - len) (by omega)
        rw [show len + (i - len) = i by omega] at this
        rw [this]
        exact ⟨rest[i - len]'(by omega), List.getElem?_eq_getElem (by omega)⟩
    have hex : ∀ i, ∃ C : List Value, i < cap → cellsK ks C = true ∧ (∀ y ∈ C, inR y = true) ∧ ∀ (j : Nat) y, C[j]? = some y → W.cell? ⟨b, off + i * ks.length + j, none⟩ = some y := by
      intro i
      by_cases hi : i < cap
      · obtain ⟨y, hy⟩ := hall i hi
        rw [hcl] at hy
        obtain ⟨cs, hc, htr⟩ := Option.bind_eq_some_iff.1 hy
        obtain ⟨_, hcl2, hcat⟩ := World.cells?_some hc
        obtain ⟨q1, q2⟩ := flat_trod d e ks hf hs n cs y htr
        refine ⟨cs, fun _ => ⟨q1, q2, fun j z hz => ?_⟩⟩
        have hj : j < ks.length := by have := (List.getElem?_eq_some_iff.1 hz).1; omega
        rw [← hz, ← hcat j hj]
        have e1 : Addr.add (Addr.add ⟨b, off, none⟩ (i * ks.length)) j = ⟨b, off + i * ks.length + j, none⟩ := by
          unfold Addr.add
          by_cases z1 : i * ks.length = 0
          · rw [if_pos z1]
            by_cases z2 : j = 0
            · rw [if_pos z2, z1, z2]; rfl
            · rw [if_neg z2, z1]; rfl
          · rw [if_neg z1]
            by_cases z2 : j = 0
            · rw [if_pos z2, z2]; rfl
            · rw [if_neg z2]
        rw [e1]
      · exact ⟨[], fun h => absurd h hi⟩
    refine ⟨b, off, len, cap, fun i => (hex i).choose, rfl, h2, h3, hb, fun i hi => (hex i).choose_spec hi⟩
end

/-! ### what is read, in abstract memory -/
def scs (vs : List Value) : List AV := vs.map .sc
theorem scs_V {ρ : Ren} {ks : List (Option IntKind)} : ∀ {vs : List Value}, cellsK ks vs = true → ∀ v ∈ vs, V ρ (.sc v) v ∧ v.oneCell' = true := by
  induction ks with
  | nil => intro vs h; cases vs with | nil => simp | cons _ _ => simp [cellsK] at h
  | cons k ks ih =>
    intro vs h v hv
    cases vs with
    | nil => simp at hv
    | cons a vs =>
      simp only [cellsK, Bool.and_eq_true] at h
      rcases List.mem_cons.1 hv with rfl | hv
      · cases v <;> cases k <;> simp [cellK] at h <;> exact ⟨.sc rfl, rfl⟩
      · exact ih h.2 v hv
structure Open (P : Program) (W : World) (S : AH) (ρ : Ren) (as : List AV) (xs : List Value) : Prop where
  r : R P ρ S W
  v : VL ρ as xs
  ro : ∀ id o, S.get id = some o → isRo o = true
theorem Open.nil (P : Program) (W : World) : Open P W ⟨.e, 0⟩ (fun _ => none) [] [] := ⟨R.nothing P W, .nil, fun id o h => by simp [AH.get, getK] at h⟩
theorem Open.one {P : Program} {W : World} {S : AH} {ρ : Ren} {as : List AV} {xs : List Value} (h : Open P W S ρ as xs) {a : AV} {x : Value} (hv : V ρ a x) : Open P W S ρ (a :: as) (x :: xs) := ⟨h.r, .cons hv h.v, h.ro⟩
theorem Open.lay {P : Program} {W : World} {S : AH} {ρ : Ren} {as : List AV} {xs : List Value} (h : Open P W S ρ as xs) {b off l : Nat} {c : List AV} (hb : b < W.heap.size)
    (hc : ∀ (i : Nat) v, c[i]? = some v → ∃ x, W.cell? ⟨b, off + i, none⟩ = some x ∧ V ρ v x ∧ x.oneCell' = true) : Open P W (S.new (.ro c)) (ρ.put S.next (b, off, l)) as xs ∧ ρ.le (ρ.put S.next (b, off, l)) := by
  have hn : ρ S.next = none := by
    cases e : ρ S.next with
    | none => rfl
    | some x => exact absurd (h.r.dom e) (Nat.lt_irrefl _)
  have hle := Ren.le_put (x := (b, off, l)) hn
  refine ⟨⟨⟨?_, ?_, ?_, ?_, ?_⟩, h.v.mono hle, ?_⟩, hle⟩
  · intro id ob b' o l' h1 h2
    rw [AH.get_new] at h1
    by_cases e : id = S.next
    · subst e
      rw [if_pos rfl] at h1
      cases h1
      rw [Ren.put_same] at h2
      cases h2
      intro i v hv
      obtain ⟨x, q1, q2, q3⟩ := hc i v hv
      exact ⟨x, q1, q2.mono hle, q3⟩
    · rw [if_neg e] at h1
      rw [Ren.put_other _ _ e] at h2
      exact (h.r.objs h1 h2).mono hle rfl
  · intro i j oi oj b' o l' o' l'' h1 h2 h3 h4 h5
    exfalso
    have hro : ∀ id o, (S.new (.ro c)).get id = some o → isRo o = true := fun id o hg => by
      rw [AH.get_new] at hg
      split at hg
      · cases hg; rfl
      · exact h.ro id o hg
    rw [hro i oi h1, hro j oj h2] at h5
    simp at h5
  · intro id x h1
    by_cases e : id = S.next
    · subst e; simp
    · rw [Ren.put_other _ _ e] at h1
      have := h.r.dom h1
      simp; omega
  · intro id b' o l' h1
    by_cases e : id = S.next
    · subst e
      rw [Ren.put_same] at h1
      cases h1
      exact hb
    · rw [Ren.put_other _ _ e] at h1
      exact h.r.blk h1
  · intro id ob hg
    rw [AH.get_new] at hg
    split at hg
    · next e => subst e; simp
    · have := h.r.wf hg; simp; omega
  · intro id o hg
    rw [AH.get_new] at hg
    split at hg
    · cases hg; rfl
    · exact h.ro id o hg
theorem Open.sliceC {P : Program} {W : World} {S : AH} {ρ : Ren} {as : List AV} {xs : List Value} (h : Open P W S ρ as xs) {ks : List (Option IntKind)} {v : Value}
    (hv : v = .slice none 0 0 ∨ ∃ (b off len cap : Nat) (C : Nat → List Value), v = .slice (some ⟨b, off, none⟩) len cap ∧ len ≤ cap ∧ cap ≤ maxLen ∧ b < W.heap.size ∧
      ∀ i, i < cap → cellsK ks (C i) = true ∧ (∀ y ∈ C i, inR y = true) ∧ ∀ (j : Nat) y, (C i)[j]? = some y → W.cell? ⟨b, off + i * ks.length + j, none⟩ = some y) :
    ∃ (a : AV) (S' : AH) (ρ' : Ren) (L : List (List Value)), Open P W S' ρ' (a :: as) (v :: xs) ∧ Grows S S' ∧ RoSl S' a ks.length (L.map scs) ∧ L.length ≤ maxLen ∧ (∀ vs ∈ L, cellsK ks vs = true ∧ ∀ y ∈ vs, inR y = true) ∧ ((a = Ns ∧ S' = S) ∨ ∃ c len cap, a = .sl S.next 0 len cap ∧ S' = S.new (.ro c)) := by
  rcases hv with rfl | ⟨b, off, len, cap, C, rfl, hle, hm, hb, hC⟩
  · exact ⟨Ns, S, ρ, [], h.one (.sc rfl), Grows.refl S, ⟨.inl ⟨rfl, rfl⟩, by simp [vids]⟩, by simp, by simp, .inl ⟨rfl, rfl⟩⟩
  · let c : List AV := ((List.range cap).map fun i => scs (C i)).flatten
    have hlen : ∀ x ∈ (List.range cap).map (fun i => scs (C i)), x.length = ks.length := by
      intro x hx
      obtain ⟨i, hi, rfl⟩ := List.mem_map.1 hx
      have := cellsK_length (hC i (List.mem_range.1 hi)).1
      simp [scs, this]
    have hcl : c.length = cap * ks.length := by
      show (List.flatten _).length = _
      rw [flatten_length hlen, List.length_map, List.length_range]
    have hget : ∀ i, i < cap → ((c.drop (i * ks.length)).take ks.length) = scs (C i) := fun i hi => flatten_at hlen (by simp [hi])
    obtain ⟨h1, h2⟩ := h.lay (l := cap * ks.length) hb (c := c) (off := off) fun q v hq => by
      have hql : q < c.length := (List.getElem?_eq_some_iff.1 hq).1
      have hkp : 0 < ks.length := by
        rcases Nat.eq_zero_or_pos ks.length with e | e
        · rw [hcl, e] at hql; omega
        · exact e
      have hdm := Nat.div_add_mod q ks.length
      have hmod := Nat.mod_lt q hkp
      have hi : q / ks.length < cap := by
        rw [Nat.div_lt_iff_lt_mul hkp]; omega
      have hg := hget (q / ks.length) hi
      have hq2 : (scs (C (q / ks.length)))[q % ks.length]? = some v := by
        rw [← hg, List.getElem?_take, if_pos hmod, List.getElem?_drop, ← hq]
        congr 1
        rw [Nat.mul_comm]; omega
      unfold scs at hq2
      rw [List.getElem?_map] at hq2
      obtain ⟨x, hx, rfl⟩ := Option.map_eq_some_iff.1 hq2
      obtain ⟨q1, q2, q3⟩ := hC _ hi
      refine ⟨x, ?_, scs_V q1 x (List.mem_of_getElem? hx)⟩
      have := q3 _ _ hx
      rw [show off + q / ks.length * ks.length + q % ks.length = off + q by rw [Nat.mul_comm]; omega] at this
      exact this
    refine ⟨.sl S.next 0 len cap, _, _, (List.range len).map C, h1.one (.sl (off := 0) (Ren.put_same _ _ _)), Grows.new S _, ⟨.inr ⟨S.next, 0, c, .inl ⟨cap, ?_, ?_, ?_⟩, ?_, ?_, ?_⟩, ?_⟩, ?_, ?_, .inr ⟨c, len, cap, rfl, rfl⟩⟩
    · simpa using hle
    · rw [hcl]; omega
    · simp
    · unfold AH.cells?; rw [get_new_same]; rfl
    · rw [List.drop_zero, List.length_map, List.length_map, List.length_range]
      have e1 : (List.range cap).map (fun i => scs (C i)) = ((List.range len).map C).map scs ++ ((List.range (cap - len)).map fun j => scs (C (len + j))) := by
        have : List.range cap = List.range len ++ (List.range (cap - len)).map (fun j => len + j) := by
          rw [← List.range_add]; congr 1; omega
        rw [this, List.map_append, List.map_map, List.map_map]; rfl
      have hsub : ∀ x ∈ ((List.range len).map C).map scs, x.length = ks.length := fun x hx => hlen x (by rw [e1]; exact List.mem_append.2 (.inl hx))
      show List.take (len * ks.length) (List.flatten _) = _
      rw [e1, List.flatten_append, List.take_append]
      have hl2 : (((List.range len).map C).map scs).flatten.length = len * ks.length := by rw [flatten_length hsub]; simp
      rw [hl2, Nat.sub_self, List.take_zero, List.append_nil, List.take_of_length_le (by omega)]
    · intro x hx
      obtain ⟨vs, hvs, rfl⟩ := List.mem_map.1 hx
      obtain ⟨i, hi, rfl⟩ := List.mem_map.1 hvs
      have := cellsK_length (hC i (by have := List.mem_range.1 hi; omega)).1
      simp [scs, this]
    · intro id hid
      simp only [vids, List.mem_singleton] at hid
      subst hid
      simp
    · simp; omega
    · intro vs hvs
      obtain ⟨i, hi, rfl⟩ := List.mem_map.1 hvs
      have := hC i (by have := List.mem_range.1 hi; omega)
      exact ⟨this.1, this.2.1⟩
theorem Open.slice {P : Program} {W : World} {S : AH} {ρ : Ren} {as : List AV} {xs : List Value} (h : Open P W S ρ as xs) {ks : List (Option IntKind)} {v : Value}
    (hv : v = .slice none 0 0 ∨ ∃ (b off len cap : Nat) (C : Nat → List Value), v = .slice (some ⟨b, off, none⟩) len cap ∧ len ≤ cap ∧ cap ≤ maxLen ∧ b < W.heap.size ∧
      ∀ i, i < cap → cellsK ks (C i) = true ∧ (∀ y ∈ C i, inR y = true) ∧ ∀ (j : Nat) y, (C i)[j]? = some y → W.cell? ⟨b, off + i * ks.length + j, none⟩ = some y) :
    ∃ (a : AV) (S' : AH) (ρ' : Ren) (L : List (List Value)), Open P W S' ρ' (a :: as) (v :: xs) ∧ Grows S S' ∧ RoSl S' a ks.length (L.map scs) ∧ L.length ≤ maxLen ∧ (∀ vs ∈ L, cellsK ks vs = true ∧ ∀ y ∈ vs, inR y = true) := by
  obtain ⟨a, S', ρ', L, h1, h2, h3, h4, h5, _⟩ := h.sliceC hv
  exact ⟨a, S', ρ', L, h1, h2, h3, h4, h5⟩
end
end Go.Abs
namespace Go.Abs
noncomputable section
set_option linter.unusedVariables false
section
variable {M : Mach} {S : AH} {f : FuncId}
def isStructB (P : Program) (t : TypeId) : Bool := match P.underlying t with
  | some (.struct _) => true
  | _ => false
theorem isStructB_some {P : Program} {t : TypeId} (h : isStructB P t = true) : ∃ fs, P.underlying t = some (.struct fs) := by
  unfold isStructB at h
  split at h
  · exact ⟨_, by assumption⟩
  · cases h
theorem sameI_ok {v v' : AV} {l : List Int} (hk : M.kn f [v, v'] = none) (hb : M.tbl f = some (sameB 1 fun a b k => .op (.bin .eql a b) k)) (h : RoSl S v 1 (ints l)) (h' : RoSl S v' 1 (ints l)) (hl : l.length < 4611686018427387904) :
    wpC M (.fn (.func f) [] []) [v, v'] S fun r S' => r = B true ∧ Grows S S' := by
  refine same_ok hk hb h h' (by rw [ints_len]; exact hl) (fun _ => True) (fun x hx id off S1 k Q hp hw => ?_) (fun x hx S1 k Q hw => ?_)
  · obtain ⟨n, hn, rfl⟩ := List.mem_map.1 hx
    obtain ⟨c, h1, h2⟩ := pt_get (j := 0) hp rfl
    exact wp_op (e_load1 h1 h2) (hw _ rfl)
  · obtain ⟨n, hn, rfl⟩ := List.mem_map.1 hx
    exact wp_eql_t rfl hw
end
end
end Go.Abs
namespace Go.Abs
noncomputable section
set_option linter.unusedVariables false
set_option linter.unusedSimpArgs false
/-! ### more fuel, the same answer -/
def OLe {α : Type} (a b : Option α) : Prop := ∀ r, a = some r → b = some r
theorem OLe.rfl' {α : Type} {a : Option α} : OLe a a := fun _ h => h
theorem thenK_le {r r' : Option (AV × AH)} {ih ih' : AV → AH → Out} (h : OLe r r') (hi : ∀ v S, OLe (ih v S) (ih' v S)) : OLe (thenK r ih) (thenK r' ih') := by
  intro x hx
  obtain ⟨v, S', h1, h2⟩ := thenK_some hx
  rw [h _ h1]
  exact hi _ _ _ h2
theorem iter_le {b b' : List AV → AH → Out} (hb : ∀ vs S, OLe (b vs S) (b' vs S)) : ∀ {n m : Nat}, n ≤ m → ∀ vs S, OLe (iter b n vs S) (iter b' m vs S)
  | 0, _, _, _, _ => fun _ h => by cases h
  | n + 1, 0, h, _, _ => by omega
  | n + 1, m + 1, h, vs, S => by
    intro r hr
    unfold iter at hr ⊢
    cases hq : b vs S with
    | none => rw [hq] at hr; cases hr
    | some q =>
      rw [hq] at hr
      rw [hb _ _ _ hq]
      obtain ⟨t, vs', S'⟩ := q
      cases t with
      | normal => exact iter_le hb (by omega) vs' S' _ hr
      | _ => exact hr
section
variable {P : Program} {call call' : AV → List AV → AH → Option (AV × AH)} {fuel fuel' : Nat}
theorem run_le (hc : ∀ f args S, OLe (call f args S) (call' f args S)) (hf : fuel ≤ fuel') : ∀ (x : AC) (S : AH), OLe (run P call fuel x S) (run P call' fuel' x S) := by
  intro x
  induction x with
  | ret t vs => intro S; exact OLe.rfl'
  | op o k ih => intro S; exact thenK_le OLe.rfl' fun v S' => ih v S'
  | gop g b o k ih =>
    intro S
    rw [run_gop, run_gop]
    unfold runGop
    split
    · exact thenK_le OLe.rfl' fun v S' => ih v S'
    · exact ih uv S
    · exact OLe.rfl'
  | chk o v k ih =>
    intro S
    show OLe (runChk P o v _ S) (runChk P o v _ S)
    unfold runChk
    split
    · split
      · exact ih S
      · exact OLe.rfl'
    · exact OLe.rfl'
  | gchk g b o v k ih =>
    intro S
    show OLe (runGchk P g b o v _ S) (runGchk P g b o v _ S)
    unfold runGchk runChk
    split
    · split
      · split
        · exact ih S
        · exact OLe.rfl'
      · exact OLe.rfl'
    · exact ih S
    · exact OLe.rfl'
  | ite c a b ia ib =>
    intro S
    rw [run_ite, run_ite]
    unfold runIte
    split
    · exact ia S
    · exact ib S
    · exact OLe.rfl'
  | call f args k ih => intro S; exact thenK_le (hc f args S) fun v S' => ih v S'
  | gcall g b f args k ih =>
    intro S
    rw [run_gcall, run_gcall]
    unfold runGcall
    split
    · exact thenK_le (hc f args S) fun v S' => ih v S'
    · exact ih uv S
    · exact OLe.rfl'
  | bind m id k outs im ik =>
    intro S r hr
    rw [run_bind'] at hr ⊢
    unfold runBind at hr ⊢
    cases hm : run P call fuel m S with
    | none => rw [hm] at hr; cases hr
    | some q =>
      rw [hm] at hr
      rw [im _ _ hm]
      obtain ⟨t, vs, S'⟩ := q
      cases t with
      | normal => exact ik vs S' _ hr
      | exit i =>
        cases id with
        | none => exact hr
        | some j =>
          simp only at hr ⊢
          cases hb : Nat.beq j i with
          | true => rw [hb] at hr; exact ik vs S' _ hr
          | false => rw [hb] at hr; exact hr
      | _ => exact hr
  | loop init body outs ib =>
    intro S r hr
    rw [run_loop] at hr ⊢
    unfold runLoop at hr ⊢
    cases hm : iter (fun vs => run P call fuel (body vs)) fuel init S with
    | none => rw [hm] at hr; cases hr
    | some q =>
      rw [hm] at hr
      rw [iter_le (b' := fun vs => run P call' fuel' (body vs)) (fun vs S' => ib vs S') hf init S _ hm]
      exact hr
  | rng n f body k outs _ ik =>
    intro S r hr
    rw [run_rng] at hr ⊢
    unfold runRng at hr ⊢
    cases f with
    | yd l => cases hr
    | _ =>
      simp only at hr ⊢
      cases hm : call _ [AV.yd S.next] (S.new (.loop .ready none n body)) with
      | none => rw [hm] at hr; cases hr
      | some q =>
        rw [hm] at hr
        rw [hc _ _ _ _ hm]
        obtain ⟨v, S'⟩ := q
        simp only at hr ⊢
        split at hr
        · cases hr
        · next st pend m b _ hg =>
          split at hr
          · exact ik _ _ hr
          · exact hr
        · cases hr
  | fin m k im ik =>
    intro S r hr
    rw [run_fin] at hr ⊢
    unfold runFin at hr ⊢
    cases hm : run P call fuel m S with
    | none => rw [hm] at hr; cases hr
    | some q =>
      rw [hm] at hr
      rw [im _ _ hm]
      obtain ⟨t, vs, S'⟩ := q
      cases t with
      | normal => exact ik vs S' _ hr
      | ret => exact ik vs S' _ hr
      | _ => exact hr
  | start l k ih =>
    intro S
    rw [run_start, run_start]
    unfold runStart
    split
    · split
      · exact ih _
      · exact OLe.rfl'
    · exact OLe.rfl'
  | fail => intro S; exact OLe.rfl'
end
theorem callT_le {P : Program} {tbl : Table} {kn : Known} : ∀ {n m : Nat}, n ≤ m → ∀ f args S, OLe (callT P tbl kn n f args S) (callT P tbl kn m f args S)
  | 0, _, _, _, _, _ => fun _ h => by cases h
  | n + 1, 0, h, _, _, _ => by omega
  | n + 1, m + 1, h, f, args, S => by
    have ih := fun f args S => callT_le (P := P) (tbl := tbl) (kn := kn) (show n ≤ m by omega) f args S
    have hr := fun x S => run_le (P := P) ih (show n ≤ m by omega) x S
    intro r hx
    unfold callT at hx ⊢
    split
    · next f first cap =>
      simp only at hx
      split at hx
      · exact hx
      · split at hx
        · next b hb =>
          cases hm : run P (callT P tbl kn n) n (b (appL first (appL args cap))) S with
          | none => rw [hm] at hx; cases hx
          | some q => (rw [hm] at hx; rw [hr _ _ _ hm]; exact hx)
        · exact hx
    · next name =>
      simp only at hx ⊢
      split at hx
      · next t v rest =>
        split at hx
        · next f r hm => exact ih _ _ _ _ hx
        · cases hx
      · cases hx
    · next l =>
      simp only at hx ⊢
      split at hx
      · next pend m' body hg =>
        split at hx
        · next hb =>
          cases hm : run P (callT P tbl kn n) n (body (AV.yd l :: args)) S with
          | none => rw [hm] at hx; cases hx
          | some q => (rw [hm] at hx; rw [hr _ _ _ hm]; exact hx)
        · cases hx
      · cases hx
    · next h1 h2 h3 =>
      split at hx
      · exact absurd rfl (h1 _ _ _)
      · exact absurd rfl (h2 _)
      · exact absurd rfl (h3 _)
      · cases hx

theorem wp_run {M : Mach} {x : AC} {S S' : AH} {Q : Post} {t : Tag} {vs : List AV} (n : Nat) (h : run M.P (callT M.P M.tbl M.kn n) n x S = some (t, vs, S')) (hq : Q t vs S') : wp M x S Q :=
  ⟨t, vs, S', ⟨n, fun m hm => run_le (fun f args S => callT_le hm f args S) hm x S _ h⟩, hq⟩
/-! ### code that calls with other arguments, and is answered the same -/
end
end Go.Abs
namespace Go.Abs
noncomputable section
set_option linter.unusedVariables false
/-! ### things that are not looked at -/
section
variable [Tok]
end
end
end Go.Abs
namespace Go.Abs
noncomputable section
set_option linter.unusedVariables false
set_option linter.unusedSimpArgs false
/-! ### what a run does in a part of memory, it does in all of it -/
def Sub (S T : AH) : Prop := S.next = T.next ∧ ∀ id o, S.get id = some o → T.get id = some o
variable {S T S' : AH} {P : Program}
theorem Sub.refl (S : AH) : Sub S S := ⟨rfl, fun _ _ h => h⟩
theorem Sub.trans {U : AH} (h : Sub S T) (k : Sub T U) : Sub S U := ⟨h.1.trans k.1, fun id o e => k.2 id o (h.2 id o e)⟩
theorem Sub.new (h : Sub S T) (o : AO) : Sub (S.new o) (T.new o) := by
  refine ⟨by show Nat.succ S.next = Nat.succ T.next; rw [h.1], fun id x hx => ?_⟩
  rw [AH.get_new] at hx ⊢
  rw [← h.1]
  split at hx
  · rename_i e; rw [if_pos e]; exact hx
  · rename_i e; rw [if_neg e]; exact h.2 _ _ hx
theorem Sub.set (h : Sub S T) (i : Nat) (o : AO) : Sub (S.set i o) (T.set i o) := by
  refine ⟨h.1, fun id x hx => ?_⟩
  rw [AH.get_set] at hx ⊢
  split at hx
  · rename_i e; rw [if_pos e]; exact hx
  · rename_i e; rw [if_neg e]; exact h.2 _ _ hx
theorem Sub.kill (h : Sub S T) (i : Nat) : Sub (S.kill i) (T.kill i) := by
  refine ⟨h.1, fun id x hx => ?_⟩
  rw [AH.get_kill] at hx ⊢
  split at hx
  · cases hx
  · rename_i e; rw [if_neg e]; exact h.2 _ _ hx
theorem Sub.cells (h : Sub S T) {id : Nat} {c : List AV} (hc : S.cells? id = some c) : T.cells? id = some c := by
  unfold AH.cells? at hc ⊢
  split at hc
  · next o e => rw [h.2 _ _ e]; exact hc
  · cases hc
theorem Sub.row (h : Sub S T) {id : Nat} {c : List AV} (hc : S.row? id = some c) : T.row? id = some c := by
  unfold AH.row? at hc ⊢
  split at hc
  · next o e => rw [h.2 _ _ e]; exact hc
  · cases hc
theorem Sub.elems (h : Sub S T) {es : Nat} {x : AV} {r : Nat × List AV} (hc : elems S es x = some r) : elems T es x = some r := by
  unfold Abs.elems at hc ⊢
  split at hc
  · exact hc
  · split at hc
    · next c e => simp only [h.cells e]; exact hc
    · cases hc
  · split at hc
    · next c e => simp only [h.cells e]; exact hc
    · cases hc
  · exact hc
  · cases hc
theorem Sub.mapOf (h : Sub S T) {m : AV} {r : List (Value × AV)} (hc : mapOf S m = some r) : mapOf T m = some r := by
  unfold Abs.mapOf at hc ⊢
  split at hc
  · exact hc
  · split at hc
    · next es e => simp only [h.2 _ _ e]; exact hc
    · cases hc
  · cases hc
theorem Sub.load (h : Sub S T) {n : Nat} {agg : Bool} {p v : AV} (hc : rLoad S n agg p = some v) : rLoad T n agg p = some v := by
  unfold rLoad at hc ⊢
  split at hc
  · next id o e =>
    split at hc
    · next c e2 => simp only [h.cells e2]; exact hc
    · cases hc
  · cases hc
theorem Sub.lookup (h : Sub S T) {kt : TypeId} {ok : Bool} {z m k v : AV} (hc : rLookup P S kt ok z m k = some v) : rLookup P T kt ok z m k = some v := by
  unfold rLookup at hc ⊢
  split at hc
  · next k' es e1 e2 => simp only [e1, h.mapOf e2]; exact hc
  · cases hc
theorem Sub.maplen (h : Sub S T) {m v : AV} (hc : rMaplen S m = some v) : rMaplen T m = some v := by
  unfold rMaplen at hc ⊢
  split at hc
  · next es e => simp only [h.mapOf e]; exact hc
  · cases hc
theorem Sub.read (h : Sub S T) {o : AOp} {v : AV} (hc : evalRead P S o = some v) : evalRead P T o = some v := by
  unfold evalRead at hc ⊢
  split at hc
  · exact h.load hc
  · exact h.lookup hc
  · exact h.maplen hc
  · cases hc
section
variable {call : AV → List AV → AH → Option (AV × AH)} {fuel : Nat}
end
end
end Go.Abs
namespace Go.Abs
noncomputable section
set_option linter.unusedVariables false
set_option linter.unusedSimpArgs false
/-! ### runs in pieces: a state between two of them is a part, written out -/
inductive Pre (k : List AV → AC) : AC → AC → Prop
  | ret (vs : List AV) : Pre k (k vs) (.ret .normal vs)
  | stop (vs : List AV) : Pre k (.ret .ret vs) (.ret .ret vs)
  | op {o : AOp} {x p : AV → AC} (h : ∀ v, Pre k (x v) (p v)) : Pre k (.op o x) (.op o p)
  | gop {g : AV} {b : Bool} {o : AOp} {x p : AV → AC} (h : ∀ v, Pre k (x v) (p v)) : Pre k (.gop g b o x) (.gop g b o p)
  | chk {o : AOp} {v : AV} {x p : AC} (h : Pre k x p) : Pre k (.chk o v x) (.chk o v p)
  | gchk {g : AV} {b : Bool} {o : AOp} {v : AV} {x p : AC} (h : Pre k x p) : Pre k (.gchk g b o v x) (.gchk g b o v p)
  | ite {c : AV} {x y p q : AC} (h1 : Pre k x p) (h2 : Pre k y q) : Pre k (.ite c x y) (.ite c p q)
  | call {f : AV} {args : List AV} {x p : AV → AC} (h : ∀ v, Pre k (x v) (p v)) : Pre k (.call f args x) (.call f args p)
  | gcall {g : AV} {b : Bool} {f : AV} {args : List AV} {x p : AV → AC} (h : ∀ v, Pre k (x v) (p v)) : Pre k (.gcall g b f args x) (.gcall g b f args p)
  | bind {m : AC} {id : Option Nat} {x p : List AV → AC} {outs : List AV → List AV} (h : ∀ vs, Pre k (x vs) (p vs)) : Pre k (.bind m id x outs) (.bind m id p outs)
def goOn (k : List AV → AH → Out) : Out → Out
  | some (.normal, vs, S) => k vs S
  | r => r
section
variable {P : Program} {call : AV → List AV → AH → Option (AV × AH)} {fuel : Nat}
theorem goOn_then {r : Option (AV × AH)} {k : List AV → AH → Out} {x p : AV → AH → Out} (h : ∀ v S, x v S = goOn k (p v S)) : thenK r x = goOn k (thenK r p) := by
  cases r with
  | none => rfl
  | some q => exact h _ _
theorem pre_run {k : List AV → AC} {x p : AC} (h : Pre k x p) : ∀ S, run P call fuel x S = goOn (fun vs S => run P call fuel (k vs) S) (run P call fuel p S) := by
  induction h with
  | ret vs => intro S; rfl
  | stop vs => intro S; rfl
  | op _ ih => intro S; exact goOn_then ih
  | gop _ ih =>
    intro S
    rw [run_gop, run_gop]
    unfold runGop
    split
    · exact goOn_then ih
    · exact ih _ S
    · rfl
  | chk _ ih =>
    intro S
    show runChk P _ _ _ S = goOn _ (runChk P _ _ _ S)
    unfold runChk
    split
    · split
      · exact ih S
      · rfl
    · rfl
  | gchk _ ih =>
    intro S
    show runGchk P _ _ _ _ _ S = goOn _ (runGchk P _ _ _ _ _ S)
    unfold runGchk runChk
    split
    · split
      · split
        · exact ih S
        · rfl
      · rfl
    · exact ih S
    · rfl
  | ite _ _ i1 i2 =>
    intro S
    rw [run_ite, run_ite]
    unfold runIte
    split
    · exact i1 S
    · exact i2 S
    · rfl
  | call _ ih => intro S; exact goOn_then ih
  | gcall _ ih =>
    intro S
    rw [run_gcall, run_gcall]
    unfold runGcall
    split
    · exact goOn_then ih
    · exact ih _ S
    · rfl
  | @bind m id x p outs _ ih =>
    intro S
    rw [run_bind', run_bind']
    unfold runBind
    cases run P call fuel m S with
    | none => rfl
    | some q =>
      obtain ⟨t, vs, S'⟩ := q
      cases t with
      | normal => exact ih vs S'
      | exit i =>
        cases id with
        | none => rfl
        | some j =>
          simp only
          cases Nat.beq j i with
          | true => exact ih vs S'
          | false => rfl
      | _ => rfl
end
theorem pre_wp {M : Mach} {k : List AV → AC} {x p : AC} {S : AH} {Q : Post} (h : Pre k x p) (w : wp M p S fun t vs S' => t = .normal ∧ wp M (k vs) S' Q) : wp M x S Q := by
  obtain ⟨t, vs, S', ⟨n0, hn⟩, rfl, t2, vs2, S2, ⟨n1, hm⟩, q⟩ := w
  refine ⟨t2, vs2, S2, ⟨max n0 n1, fun n h1 => ?_⟩, q⟩
  rw [pre_run h, hn n (by omega)]
  exact hm n (by omega)
noncomputable def litT : List (Nat × List AV) → T AO := List.rec (motive := fun _ => T AO) .e fun p _ ih => putK (some (.row p.2)) ih p.1
noncomputable def lit (n : Nat) (l : List (Nat × List AV)) : AH := ⟨litT l, n⟩
end
end Go.Abs
