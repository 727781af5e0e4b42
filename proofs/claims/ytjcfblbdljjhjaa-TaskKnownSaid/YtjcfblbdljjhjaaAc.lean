/- the abstract machine: calls do what the model does; a statement out of a run. No condition: it holds of every program that has a table of bodies. -/
import Derived.Test.YtjcfblbdljjhjaaAb
import Derived.ProofKit
import Derived.Below
set_option linter.unusedVariables false
namespace Go.Abs
noncomputable section
set_option linter.unusedVariables false
set_option linter.unusedSimpArgs false
variable {P : Program} {ρ : Ren} {F : Fr} {a : Act} {o : Oper} {S : AH} {w : World}

/-! ### a deferred call of a function that defers nothing -/
structure DeferSound (P : Program) (call : CallF) : Prop where
  ok : ∀ {g fa fc args S v S' ρ w d}, call (.fn (.func g) fa fc) args S = some (v, S') → plainFn P g = true → R P ρ S w → CallArg ρ (.fn (.func g) fa fc) args d →
    ∃ cap ys, d.target = .fn (.func g) cap ∧ (invoke d.target d.args).run P w = .ok (.enter g ys) w ∧ ∀ u, u ≠ .run → CallsDIn Fence.wide 0 P g ys u w fun e u' w' => u' = u ∧ CallPost P ρ S w v S' e w'

/-- marks, on the way out of whatever frame -/
theorem steps_marks {ρ0 : Ren} {S0 : AH} {w0 : World} : ∀ (ms : List Deferred) (w : World) (fr : Frame) (cs : List Frame), Marks w0.heap.size ρ S w ms → R P ρ S w → Ext ρ0 S0 w0 ρ S w → fr.mode ≠ .run → fr.defers = ms →
    ∃ w', R P ρ S w' ∧ Ext ρ0 S0 w0 ρ S w' ∧ StepsIn (Machine.fenced P Fence.wide) P (lone fr cs w) (lone { fr with defers := [] } cs w')
  | [], w, fr, cs, hm, hR, hE, hmode, hd => ⟨w, hR, hE, by rw [← hd]; exact .refl _⟩
  | m :: ms, w, fr, cs, hm, hR, hE, hmode, hd => by
    obtain ⟨r, h1, h2, h3, h4⟩ := hm.2 m (by simp)
    have hpw := List.pairwise_cons.1 hm.1
    have hm' : Marks w0.heap.size ρ S (w.putObj r (.deferred none)) ms := by
      refine ⟨hpw.2, fun m' hm' => ?_⟩
      obtain ⟨r', k1, k2, k3, k4⟩ := hm.2 m' (by simp [hm'])
      refine ⟨r', k1, k2, ?_, k4⟩
      have hne : r' ≠ r := fun e => hpw.1 m' hm' (by rw [h1, k1, e])
      rw [World.putObj_heap_other hne]; exact k3
    have hs := step_collected (P := P) (cs := cs) hmode hd (by rw [h1]) (run_takeDeferred h3)
    obtain ⟨w', q1, q2, q3⟩ := steps_marks ms _ { fr with defers := [] ++ ms } cs hm' (hR.shut h4 h3) (hE.shut h2) hmode rfl
    refine ⟨w', q1, q2, .head ?_ hs q3⟩
    exact fenced_out (n := 0) trivial (room_wide _) hmode hd (fun g hg => trivial)

/-- what a function's body comes to -/
def FnPost (P : Program) (ρ : Ren) (S : AH) (w : World) (fn : Func) (v : AV) (S' : AH) : Exit → Act → World → Prop := fun e a' w' =>
  (e = .normal ∨ e = .ret) ∧ ∃ ρ', R P ρ' S' w' ∧ Ext ρ S w ρ' S' w' ∧ Marks w.heap.size ρ' S' w' a'.defers ∧
    ∀ w'', R P ρ' S' w'' → ∃ x, V ρ' v x ∧ (results fn a'.tmps).run P w'' = .ok x w''

theorem calls_of_post {f : FuncId} {fn : Func} {c : Code} {ys : Array Value} {v : AV} {S' : AH} (hf : P.funcs[f]? = some fn) (hb : fn.body = some c)
    (h : c.wpIn (FF none) 0 P (FnPost P ρ S w fn v S') { tmps := ys ++ Array.replicate (fn.ntmps - ys.size) undef, defers := [] } w) : CallsIn Fence.wide 0 P f ys w (CallPost P ρ S w v S') := by
  refine callsIn_of_wp_marks (F := FF none) hf hb trivial (wpIn_mono h fun e a1 w1 q => ?_)
  obtain ⟨he, ρ', h1, h2, h3, h4⟩ := q
  have key : LeavesInM (FF none) 0 P fn a1.tmps (CallPost P ρ S w v S') a1.defers .returning w1 := by
    have := leaves_marks (P := P) (fn := fn) (tmps := a1.tmps) (Rr := CallPost P ρ S w v S') (rest := []) a1.defers w1 h3 h1 h2 (fun w' q1 q2 q3 => by
      obtain ⟨x, g1, g2⟩ := h4 w' q1
      exact ⟨x, g2, x, ρ', rfl, g1, q1, q2⟩)
    rwa [List.append_nil] at this
  rcases he with rfl | rfl <;> exact key

theorem deferred_of_post {f : FuncId} {fn : Func} {c : Code} {ys : Array Value} {v : AV} {S' : AH} {u : FrameMode} (hf : P.funcs[f]? = some fn) (hb : fn.body = some c)
    (h : c.wpIn (FF none) 0 P (FnPost P ρ S w fn v S') { tmps := ys ++ Array.replicate (fn.ntmps - ys.size) undef, defers := [] } w) :
    CallsDIn Fence.wide 0 P f ys u w fun e u' w' => u' = u ∧ CallPost P ρ S w v S' e w' := by
  refine ⟨trivial, fun c₀ cs hu hr => ?_⟩
  let b : Frame := { (default : Frame) with fn := f, kind := .deferred, roundOf := none }
  have henter : Frame.enter P f ys .deferred =
      b.atR { tmps := ys ++ Array.replicate (fn.ntmps - ys.size) undef, defers := [] } [.code c] := by
    simp [Frame.enter, Frame.atR, hf, hb, b]
  have hc : ({ c₀ with mode := u } : Frame) = c₀ := by subst hu; rfl
  obtain ⟨e, a', w', hq, harr⟩ := h b [] (c₀ :: cs) rfl trivial hr
  rw [← henter] at harr
  obtain ⟨he, ρ', h1, h2, h3, h4⟩ := hq
  have key : ∀ fr : Frame, fr.mode = .returning → fr.defers = a'.defers → fr.tmps = a'.tmps → fr.fn = f → fr.kind = .deferred → StepsIn (Machine.fenced P Fence.wide) P (lone (Frame.enter P f ys .deferred) (c₀ :: cs) w) (lone fr (c₀ :: cs) w') →
      ∃ e u' w' fr, (u' = u ∧ CallPost P ρ S w v S' e w') ∧
        ComesIn (Machine.fenced P Fence.wide) P (lone (Frame.enter P f ys .deferred) (c₀ :: cs) w) (lone fr ({ c₀ with mode := u' } :: cs) w') e ∧ fr.kind = .deferred ∧ fr.fn = f ∧ fr.going P w' e := by
    intro fr g1 g2 g3 g4 g5 hs
    obtain ⟨w2, k1, k2, k3⟩ := steps_marks a'.defers w' fr (c₀ :: cs) h3 h1 h2 (by rw [g1]; simp) g2
    obtain ⟨x, l1, l2⟩ := h4 w2 k1
    refine ⟨.returned x, u, w2, { fr with defers := [] }, ⟨rfl, x, ρ', rfl, l1, k1, k2⟩, ?_, g5, g4, g1, rfl, fn, by rw [← hf]; exact congrArg _ g4, by simp only [g3]; exact l2⟩
    rw [hc]; exact StepsIn.trans hs k3
  rcases he with rfl | rfl
  · exact key { b.atR a' [] with mode := .returning } rfl rfl rfl rfl rfl (StepsIn.trans harr (.one (fenced_calm (n := 0) (fr := b.atR a' []) trivial (room_wide _) rfl) (stepR_end rfl)))
  · obtain ⟨todo, hs⟩ := harr.1 rfl
    exact key { b.atR a' todo with mode := .returning } rfl rfl rfl rfl rfl hs
end
end Go.Abs
namespace Go.Abs
noncomputable section
set_option linter.unusedVariables false
set_option linter.unusedSimpArgs false
variable {P : Program} {ρ : Ren} {F : Fr} {a : Act} {o : Oper} {S : AH} {w : World}

theorem VL.oneOf {vs : List AV} {xs : List Value} (h : VL ρ vs xs) : V ρ (Abs.oneOf vs) (if h : xs.toArray.size = 1 then xs.toArray[0] else .tuple xs.toArray) := by
  cases h with
  | nil => exact .tup .nil
  | cons h1 h2 =>
    cases h2 with
    | nil => simpa [Abs.oneOf] using h1
    | cons h3 h4 => simpa [Abs.oneOf] using V.tup (.cons h1 (.cons h3 h4))

/-- results that lie in slots, as they are loaded -/
theorem loadRs_tmps (P : Program) {call : CallF} {fuel : Nat} {S : AH} : ∀ (rs : List ResultVar) (i : Nat) (pre vs acc : List AV), rs.all isTmp = true → pre.length = i → vs.length = rs.length →
    run P call fuel (loadRs P rs i (pre ++ vs) acc) S = some (.ret, acc ++ vs, S)
  | [], i, pre, vs, acc, _, hi, hl => by
    have : vs = [] := List.length_eq_zero_iff.1 (by simpa using hl)
    subst this
    simp [loadRs, run_ret]
  | .tmp t :: rs, i, pre, vs, acc, h, hi, hl => by
    cases vs with
    | nil => simp at hl
    | cons v vs =>
      have h' : rs.all isTmp = true := by simp only [List.all_cons, Bool.and_eq_true] at h; exact h.2
      have := @loadRs_tmps P call fuel S rs (i + 1) (pre ++ [v]) vs (acc ++ [v]) h' (by simp [hi]) (by simpa using hl)
      simp only [loadRs]
      have e : nth (pre ++ v :: vs) i = v := nth_of (by rw [← hi]; simp)
      rw [e]
      simpa using this
  | .cell _ _ :: rs, _, _, _, _, h, _, _ => by simp [isTmp] at h

section
variable {call : CallF} {fuel : Nat}

theorem results_sound (fn : Func) {F1 : Fr} {ρ1 : Ren} {S1 : AH} {tmps : Array Value} {t : Tag} {vs : List AV} {S' : AH} (hF : FR ρ1 F1 tmps)
    (h : run P call fuel (loadRs P fn.results.toList 0 (F1.outs (fn.results.toList.map ResultVar.slot)) []) S1 = some (t, vs, S')) {w1 : World} (hR : R P ρ1 S1 w1) :
    t = .ret ∧ S' = S1 ∧ ∃ x, V ρ1 (oneOf vs) x ∧ (results fn tmps).run P w1 = .ok x w1 := by
  obtain ⟨news, xs, h1, h2, h3, h4, h5⟩ := loadRs_sound hR fn.results.toList 0 [] t vs S' (fun j r hj => by
    rw [Nat.zero_add, nth_map _ F1 j (ResultVar.slot r) (by simp [hj])]; exact hF _) h
  refine ⟨h1, h3, (if h : xs.toArray.size = 1 then xs.toArray[0] else .tuple xs.toArray), ?_, ?_⟩
  · rw [h2, List.nil_append]; exact h4.oneOf
  · rw [results_eq, Sem.run_bind, mapM_run h5]
    simp only [Result.andThen_ok, Sem.run_pure]

/-- a body that defers nothing -/
theorem body_sound (hcall : CallSound P call) {fn : Func} {c : Code} {vars : List Nat} {vs : List AV} {S' : AH} (hb : fn.body = some c) (hd : hasDefer c = false) {args : List AV} {xs : List Value} (hx : VL ρ args xs)
    (h : run P call fuel (denFn P fn vars args) S = some (.ret, vs, S')) (hR : R P ρ S w) (hlen : xs.length ≤ fn.ntmps ∨ True) :
    c.wpIn (FF none) 0 P (FnPost P ρ S w fn (oneOf vs) S') { tmps := xs.toArray ++ Array.replicate (fn.ntmps - xs.toArray.size) undef, defers := [] } w := by
  unfold denFn at h
  rw [hb] at h
  simp only at h
  cases hfit : fits fn.ntmps c with
  | false => rw [hfit] at h; cases h
  | true =>
    rw [hfit, hd] at h
    simp only [Bool.not_true, Bool.false_eq_true, if_false] at h
    have hF0 : FR ρ (Fr.puts .e (List.range (fn.params.size + fn.nfree)) 0 args) (xs.toArray ++ Array.replicate (fn.ntmps - xs.toArray.size) undef) := FR.args _ _ hx
    have hfit' : fits (xs.toArray ++ Array.replicate (fn.ntmps - xs.toArray.size) undef).size c = true := fits_mono (by simp; omega) hfit
    -- one way or the other: the slots at the end, and what is loaded
    have key : ∃ res0, run P call fuel (den P vars false c (Fr.puts .e (List.range (fn.params.size + fn.nfree)) 0 args) (fn.results.toList.map ResultVar.slot) fun F => .ret .ret (F.outs (fn.results.toList.map ResultVar.slot))) S = some res0 ∧
        ∀ vs0 S0, (res0 = (.ret, vs0, S0)) → (∃ F1 : Fr, vs0 = F1.outs (fn.results.toList.map ResultVar.slot)) → run P call fuel (loadRs P fn.results.toList 0 vs0 []) S0 = some (.ret, vs, S') := by
      cases hall : fn.results.toList.all isTmp with
      | true =>
        rw [hall] at h
        simp only [if_true] at h
        refine ⟨_, h, fun vs0 S0 e ⟨F1, e1⟩ => ?_⟩
        cases e
        have := loadRs_tmps P (S := S') (call := call) (fuel := fuel) fn.results.toList 0 [] vs [] hall rfl (by rw [e1]; simp [Fr.outs])
        simpa using this
      | false =>
        rw [hall] at h
        simp only [Bool.false_eq_true, if_false] at h
        rw [run_fin] at h
        unfold runFin at h
        cases hm : run P call fuel (den P vars false c (Fr.puts .e (List.range (fn.params.size + fn.nfree)) 0 args) (fn.results.toList.map ResultVar.slot) fun F => .ret .ret (F.outs (fn.results.toList.map ResultVar.slot))) S with
        | none => rw [hm] at h; cases h
        | some res0 =>
          refine ⟨res0, rfl, fun vs0 S0 e _ => ?_⟩
          subst e
          rw [hm] at h
          exact h
    obtain ⟨res0, k1, k2⟩ := key
    refine wpIn_mono (den_sound hcall c false _ _ _ S res0 ρ _ w none (fun _ => rfl) k1 hR hF0 hfit') fun e a1 w1 q => ?_
    obtain ⟨ρ1, S1, F1, ms, h1, h2, h3, h4, h5, h6, h7⟩ := q
    have hdef : a1.defers = ms := by rw [h5]; simp
    have fin : res0 = (.ret, F1.outs (fn.results.toList.map ResultVar.slot), S1) → ∃ ρ', R P ρ' S' w1 ∧ Ext ρ S w ρ' S' w1 ∧ Marks w.heap.size ρ' S' w1 a1.defers ∧ ∀ w'', R P ρ' S' w'' → ∃ x, V ρ' (oneOf vs) x ∧ (results fn a1.tmps).run P w'' = .ok x w'' := by
      intro e0
      have hl := k2 _ _ e0 ⟨F1, rfl⟩
      obtain ⟨_, rfl, _⟩ := results_sound fn h2 hl h1
      refine ⟨ρ1, h1, h3, by rw [hdef]; exact h6, fun w'' hR'' => ?_⟩
      exact (results_sound fn h2 hl hR'').2.2
    cases e with
    | normal => exact ⟨.inl rfl, fin (Option.some.inj h7).symm⟩
    | ret => exact ⟨.inr rfl, fin h7⟩
    | exit id =>
      exfalso
      have e0 : res0 = (.exit id, F1.outs (fn.results.toList.map ResultVar.slot), S1) := h7
      subst e0
      cases hall : fn.results.toList.all isTmp with
      | true =>
        rw [hall] at h
        simp only [if_true] at h
        rw [k1] at h; cases h
      | false =>
        rw [hall] at h
        simp only [Bool.false_eq_true, if_false] at h
        rw [run_fin] at h
        unfold runFin at h
        rw [k1] at h
        cases h
    | goto l => exact h7.elim
    | panic ch => exact h7.elim
    | outgrown => exact h7.elim
end
end
end Go.Abs
namespace Go.Abs
noncomputable section
set_option linter.unusedVariables false
set_option linter.unusedSimpArgs false
variable {P : Program} {ρ : Ren} {F : Fr} {a : Act} {o : Oper} {S : AH} {w : World}

section
variable {call : CallF} {fuel : Nat}

theorem CallArg.mono {ρ' : Ren} (hl : ρ.le ρ') {f : AV} {args : List AV} {d : Deferred} (h : CallArg ρ f args d) : CallArg ρ' f args d := by
  rcases h with ⟨fn, fa, fc, a', c', xs, e, h1, h2, h3, h4, h5⟩ | ⟨id, b, o, l, xs, e, h1, h2, h3, h4⟩ | ⟨m, xs, e, h1, h2, h3⟩
  · exact .inl ⟨fn, fa, fc, a', c', xs, e, h1.mono hl, h2.mono hl, h3.mono hl, h4, h5⟩
  · exact .inr (.inl ⟨id, b, o, l, xs, e, hl _ _ h1, h2.mono hl, h3, h4⟩)
  · exact .inr (.inr ⟨m, xs, e, h1.mono hl, h2, h3⟩)

theorem CallPost.of_ext {ρ1 : Ren} {S1 : AH} {w1 : World} {v : AV} {S' : AH} (hE : Ext ρ S w ρ1 S1 w1) {e : Ending} {w' : World} (h : CallPost P ρ1 S1 w1 v S' e w') : CallPost P ρ S w v S' e w' := by
  obtain ⟨x, ρ', e, h1, h2, h3⟩ := h
  exact ⟨x, ρ', e, h1, h2, hE.trans h3⟩

/-- code that ends normally -/
theorem straight_sound (hcall : CallSound P call) {vars : List Nat} {round : Bool} {ro : Option Nat} : ∀ (c : Code) (F : Fr) (K : Fr → AC) (S : AH) (res : Tag × List AV × AH) (ρ : Ren) (a : Act) (w : World) (Q : Exit → Act → World → Prop), straight c = true →
    run P call fuel (den P vars round c F [] K) S = some res → R P ρ S w → FR ρ F a.tmps → fits a.tmps.size c = true →
    (∀ ρ' S' F' a' w', run P call fuel (K F') S' = some res → R P ρ' S' w' → FR ρ' F' a'.tmps → Ext ρ S w ρ' S' w' → a'.tmps.size = a.tmps.size → a'.defers = a.defers → Q .normal a' w') →
    c.wpIn (FF ro) 0 P Q a w := by
  intro c
  induction c with
  | skip => intro F K S res ρ a w Q hs h hR hF hfit hQ; exact wpIn_skip (hQ ρ S F a w h hR hF (Ext.refl _ _ _) rfl rfl)
  | label l => intro F K S res ρ a w Q hs h hR hF hfit hQ; exact wpIn_label (hQ ρ S F a w h hR hF (Ext.refl _ _ _) rfl rfl)
  | region id ops draw =>
    intro F K S res ρ a w Q hs h hR hF hfit hQ
    have hops := fits_ops hfit
    have hpost : ∀ ρ' S' F' a' w', run P call fuel (K F') S' = some res → R P ρ' S' w' → FR ρ' F' a'.tmps → Ext ρ S w ρ' S' w' → Keeps (wrt (.region id ops draw) []) a a' → a'.defers = a.defers → Q .normal a' w' :=
      fun ρ' S' F' a' w' k1 k2 k3 k4 k5 k6 => hQ ρ' S' F' a' w' k1 k2 k3 k4 k5.size k6
    simp only [den] at h
    cases hp : plan P ops draw with
    | none => rw [hp] at h; cases h
    | some p =>
      rw [hp] at h
      simp only at h
      cases draw with
      | true => exact draw_sound hcall hp h hR hF hops hpost
      | false =>
        unfold plan at hp
        simp only [Bool.false_eq_true, if_false] at hp
        cases hp
        exact wpIn_region (text_sound hcall (fun i o d h1 h2 => (hops i o d h1 h2).2) _ F [] a w ρ S h hR hF (fun i o d h1 h2 => (hops i o d h1 h2).1) hpost)
  | seq x y ihx ihy =>
    intro F K S res ρ a w Q hs h hR hF hfit hQ
    simp only [straight, Bool.and_eq_true] at hs
    simp only [den] at h
    simp only [fits, Bool.and_eq_true] at hfit
    refine wpIn_seq (ihx F _ S res ρ a w _ hs.1 h hR hF hfit.1 fun ρ1 S1 F1 a1 w1 k1 k2 k3 k4 k5 k6 => ?_)
    exact ihy F1 K S1 res ρ1 a1 w1 Q hs.2 k1 k2 k3 (by rw [k5]; exact hfit.2) fun ρ2 S2 F2 a2 w2 l1 l2 l3 l4 l5 l6 => hQ ρ2 S2 F2 a2 w2 l1 l2 l3 (k4.trans l4) (l5.trans k5) (l6.trans k6)
  | _ => intro F K S res ρ a w Q hs; simp [straight] at hs

theorem lastDefer_some {ops : Array Oper} {c : Call} (h : lastDefer ops = some c) : ∃ o, ops[ops.size - 1]? = some o ∧ o.guard = none ∧ o.dst = none ∧ o.op = .defer c ∧ List.range ops.size = List.range (ops.size - 1) ++ [ops.size - 1] := by
  unfold lastDefer at h
  cases hb : ops.back? with
  | none => rw [hb] at h; cases h
  | some o =>
    rw [hb] at h
    simp only at h
    rw [Array.back?_eq_getElem?] at hb
    have hlt := (Array.getElem?_eq_some_iff.1 hb).1
    cases hg : o.guard with
    | some _ => rw [hg] at h; cases h
    | none =>
      cases hd : o.dst with
      | some _ => rw [hg, hd] at h; cases h
      | none =>
        rw [hg, hd] at h
        simp only at h
        cases ho : o.op with
        | defer c' =>
          rw [ho] at h
          cases h
          refine ⟨o, hb, hg, hd, ho, ?_⟩
          rw [← List.range_succ]
          congr 1
          omega
        | _ => rw [ho] at h; cases h

/-- operations, the last of which defers -/
theorem wpOps_snoc {ops : Array Oper} {Q : Exit → Act → World → Prop} {j : Nat} {c : Call} {o : Oper} (ho : ops[j]? = some o) (hg : o.guard = none) (hop : o.op = .defer c) : ∀ (l : List Nat) (a : Act) (w : World),
    wpOpsIn (FF none) 0 P ops (fun e a' w' => e = .normal ∧ ∃ d, (resolve a'.eval c o.type).run P w' = .ok d w' ∧ Q .normal ({ a' with defers := d :: a'.defers }.put o.dst undef) w') l a w → wpOpsIn (FF none) 0 P ops Q (l ++ [j]) a w
  | [], a, w, h => by
    obtain ⟨_, d, h1, h2⟩ := h
    show wpOpsIn (FF none) 0 P ops Q [j] a w
    simp only [wpOpsIn, ho, Region.wanted, hg, if_true]
    refine ⟨fun _ _ => trivial, ?_⟩
    have hs : o.semAt (FF none).round a.eval = execOp a.eval o := rfl
    have hex : execOp a.eval o = (do pure (.defer (← resolve a.eval c o.type))) := by simp [execOp, hop]
    rw [hs, hex, Sem.run_bind, h1, Result.andThen_ok, Sem.run_pure]
    exact h2
  | i :: l, a, w, h => by
    show wpOpsIn (FF none) 0 P ops Q (i :: (l ++ [j])) a w
    simp only [wpOpsIn] at h ⊢
    cases hi : ops[i]? with
    | none => rw [hi] at h; exact wpOps_snoc ho hg hop l a w h
    | some oi =>
      rw [hi] at h
      simp only at h ⊢
      split
      · rename_i hw
        rw [if_pos hw] at h
        refine ⟨h.1, ?_⟩
        have h2 := h.2
        clear h
        generalize (oi.semAt (FF none).round a.eval).run P w = r at h2 ⊢
        cases r with
        | ok nx w' =>
          cases nx with
          | value v => exact wpOps_snoc ho hg hop l _ _ h2
          | skip => exact wpOps_snoc ho hg hop l _ _ h2
          | defer d => exact wpOps_snoc ho hg hop l _ _ h2
          | enter f args =>
            refine ⟨h2.1, CallsIn.mono h2.2 fun e w'' q => ?_⟩
            cases e with
            | returned v => exact wpOps_snoc ho hg hop l _ _ q
            | panicked ch => exact absurd q.1 (by simp)
            | outgrown => obtain ⟨_, _, q⟩ := q; exact absurd q.1 (by simp)
          | row r args => exact ⟨h2.1, RowsIn.mono h2.2 fun v w'' q => wpOps_snoc ho hg hop l _ _ q⟩
          | round l' f tmps asgn body =>
            refine ⟨h2.1, RoundIn.mono h2.2 fun e w'' q => ?_⟩
            cases e with
            | returned v => exact wpOps_snoc ho hg hop l _ _ q
            | panicked ch => exact absurd q.1 (by simp)
            | outgrown => obtain ⟨_, _, q⟩ := q; exact absurd q.1 (by simp)
          | _ => exact h2.elim
        | halt x w' =>
          cases x with
          | panic v => exact absurd h2.1 (by simp)
          | _ => exact h2.elim
      · rename_i hw
        rw [if_neg hw] at h
        exact ⟨h.1, wpOps_snoc ho hg hop l _ _ h.2⟩
end
end
end Go.Abs
namespace Go.Abs
noncomputable section
set_option linter.unusedVariables false
set_option linter.unusedSimpArgs false
variable {P : Program} {ρ : Ren} {F : Fr} {a : Act} {o : Oper} {S : AH} {w : World}

section
variable {call : CallF} {fuel : Nat}

def defTail (P : Program) (vars : List Nat) (rs : List ResultVar) (out : List Nat) (b : Code) (c : Call) (F1 : Fr) : AC :=
  match c.callee with
  | .value f => match F1.ev f with
    | .fn (.func g) fa fc =>
      if plainFn P g then .fin (den P vars false b F1 out fun F => .ret .ret (F.outs out)) fun vs =>
        .call (.fn (.func g) fa fc) (c.args.toList.map F1.ev) fun _ => loadRs P rs 0 vs []
      else .fail
    | _ => .fail
  | _ => .fail

theorem denD_some {vars : List Nat} {rs : List ResultVar} {out : List Nat} {x b : Code} {F : Fr} {ops : Array Oper} {c : Call} (h : deferAt x = some (ops, c)) :
    denD P vars rs out (.seq x b) F = denSteps P ops ((List.range (ops.size - 1)).map .exec) F [] (defTail P vars rs out b c) := by
  simp only [denD, h]; rfl
theorem denD_none {vars : List Nat} {rs : List ResultVar} {out : List Nat} {x b : Code} {F : Fr} (h : deferAt x = none) :
    denD P vars rs out (.seq x b) F = if straight x then den P vars false x F [] fun F1 => denD P vars rs out b F1 else .fail := by
  simp only [denD, h]

theorem leavesInM_mono {Fe : Fence} {n : Nat} {fn : Func} {tmps : Array Value} {R R' : Ending → World → Prop} (hm : ∀ e w, R e w → R' e w) : ∀ (ds : List Deferred) (u : FrameMode) (w : World), LeavesInM Fe n P fn tmps R ds u w → LeavesInM Fe n P fn tmps R' ds u w
  | [], .returning, w, h => let ⟨v, h1, h2⟩ := h; ⟨v, h1, hm _ _ h2⟩
  | [], .panicking ch, w, h => hm _ _ h
  | [], .run, w, h => h
  | d :: ds, u, w, h => by
    refine ⟨h.1, ?_⟩
    rcases h.2 with ⟨r, w', h1, h2, h3⟩ | ⟨h1, fv, cap, f, args, h2, h3, h4, h5⟩
    · exact .inl ⟨r, w', h1, h2, leavesInM_mono hm ds u w' h3⟩
    · refine .inr ⟨h1, fv, cap, f, args, h2, h3, h4, CallsDIn.mono h5 fun e u' w' q => ?_⟩
      cases e with
      | returned v => exact leavesInM_mono hm ds _ w' q
      | panicked ch => exact leavesInM_mono hm ds _ w' q
      | outgrown => exact hm _ _ q
theorem bodyPostM_mono {Fe : Fence} {n : Nat} {fn : Func} {R R' : Ending → World → Prop} (hm : ∀ e w, R e w → R' e w) {e : Exit} {a : Act} {w : World} (h : bodyPostM Fe n P fn R e a w) : bodyPostM Fe n P fn R' e a w := by
  cases e with
  | normal => exact leavesInM_mono hm _ _ _ h
  | ret => exact leavesInM_mono hm _ _ _ h
  | panic ch => exact leavesInM_mono hm _ _ _ h
  | outgrown => exact hm _ _ h
  | exit i => exact h
  | goto l => exact h

theorem denD_sound (hcall : CallSound P call) (hdef : DeferSound P call) {vars : List Nat} {fn : Func} {vs : List AV} {S' : AH} : ∀ (c : Code) (F : Fr) (S : AH) (ρ : Ren) (a : Act) (w : World),
    run P call fuel (denD P vars fn.results.toList (fn.results.toList.map ResultVar.slot) c F) S = some (.ret, vs, S') → R P ρ S w → FR ρ F a.tmps → fits a.tmps.size c = true → a.defers = [] →
    c.wpIn (FF none) 0 P (bodyPostM (FF none) 0 P fn (CallPost P ρ S w (oneOf vs) S')) a w := by
  intro c
  induction c with
  | seq x b ihx ihb =>
    intro F S ρ a w h hR hF hfit hd0
    simp only [fits, Bool.and_eq_true] at hfit
    cases hda : deferAt x with
    | none =>
      rw [denD_none hda] at h
      cases hs : straight x with
      | false => rw [hs] at h; cases h
      | true =>
        rw [hs] at h
        simp only [if_true] at h
        refine wpIn_seq (straight_sound hcall x F _ S _ ρ a w _ hs h hR hF hfit.1 fun ρ1 S1 F1 a1 w1 k1 k2 k3 k4 k5 k6 => ?_)
        refine wpIn_mono (ihb F1 S1 ρ1 a1 w1 k1 k2 k3 (by rw [k5]; exact hfit.2) (by rw [k6, hd0])) fun e a2 w2 q => ?_
        have hm : ∀ (e : Ending) w', CallPost P ρ1 S1 w1 (oneOf vs) S' e w' → CallPost P ρ S w (oneOf vs) S' e w' := fun e w' q => q.of_ext k4
        exact bodyPostM_mono hm q
    | some q =>
      obtain ⟨ops, c⟩ := q
      rw [denD_some hda] at h
      cases x with
      | region id ops' dr =>
        cases dr with
        | true => simp [deferAt] at hda
        | false =>
          have hld : ops' = ops ∧ lastDefer ops = some c := by
            simp only [deferAt] at hda
            cases hl : lastDefer ops' with
            | none => rw [hl] at hda; cases hda
            | some c' => rw [hl] at hda; cases hda; exact ⟨rfl, hl⟩
          obtain ⟨rfl, hld⟩ := hld
          obtain ⟨o, ho, hg, hdst, hop, hrange⟩ := lastDefer_some hld
          have hops := fits_ops hfit.1
          refine wpIn_seq (wpIn_region ?_)
          rw [hrange]
          refine wpOps_snoc ho hg hop _ a w ?_
          refine text_sound hcall (W := wrt (.region id ops' false) []) (fun i o d h1 h2 => (hops i o d h1 h2).2) _ F [] a w ρ S h hR hF (fun i o d h1 h2 => (hops i o d h1 h2).1) fun ρ1 S1 F1 a1 w1 k1 k2 k3 k4 k5 k6 => ?_
          refine ⟨rfl, ?_⟩
          unfold defTail at k1
          cases hcal : c.callee with
          | value f =>
            rw [hcal] at k1
            simp only at k1
            have hfv := ev_sound k3 f
            cases hev : F1.ev f with
            | fn g fa fc =>
              rw [hev] at k1
              cases g with
              | func g =>
                simp only at k1
                cases hpl : plainFn P g with
                | false => rw [hpl] at k1; cases k1
                | true =>
                  rw [hpl] at k1
                  simp only [if_true] at k1
                  obtain ⟨d, hres, harg⟩ := callArg_value (P := P) (c := c) (f := .fn (.func g) fa fc) rfl hcal (hev ▸ hfv) (evs_sound k3 c.args.toList) o.type
                  refine ⟨d, hres w1, ?_⟩
                  rw [run_fin] at k1
                  unfold runFin at k1
                  cases hm : run P call fuel (den P vars false b F1 (fn.results.toList.map ResultVar.slot) fun F => .ret .ret (F.outs (fn.results.toList.map ResultVar.slot))) S1 with
                  | none => rw [hm] at k1; cases k1
                  | some res0 =>
                    rw [hm] at k1
                    have hFd : FR ρ1 F1 (({ a1 with defers := d :: a1.defers } : Act).put o.dst undef).tmps := by rw [hdst]; exact k3
                    have hsz : (({ a1 with defers := d :: a1.defers } : Act).put o.dst undef).tmps.size = a.tmps.size := by rw [put_size]; exact k5.size
                    show Code.wpIn (FF none) 0 P b _ _ w1
                    refine wpIn_mono (den_sound hcall b false F1 _ _ S1 res0 ρ1 _ w1 none (fun _ => rfl) hm k2 hFd (by rw [hsz]; exact hfit.2)) fun e a2 w2 q => ?_
                    obtain ⟨ρ2, S2, F2, ms, h1, h2, h3, h4, h5, h6, h7⟩ := q
                    have hdf : a2.defers = ms ++ [d] := by rw [h5, put_defers]; simp [k6, hd0]
                    have fin : res0 = (.ret, F2.outs (fn.results.toList.map ResultVar.slot), S2) → LeavesInM (FF none) 0 P fn a2.tmps (CallPost P ρ S w (oneOf vs) S') a2.defers .returning w2 := by
                      intro e0
                      subst e0
                      simp only at k1
                      rw [run_call] at k1
                      obtain ⟨v, S3, g1, g2⟩ := thenK_some k1
                      rw [hdf]
                      refine leaves_marks (ρ0 := ρ1) (S0 := S1) (w0 := w1) ms w2 h6 h1 h3 fun w3 j1 j2 j3 => ?_
                      obtain ⟨cap, ys, l1, l2, l3⟩ := hdef.ok g1 hpl j1 (harg.mono h3.ren)
                      refine ⟨by simp, .inr ⟨fun h => by simp [FF] at h, .func g, cap, g, ys, l1, l2, fun _ _ => trivial, ?_⟩⟩
                      refine CallsDIn.mono (l3 .returning (by simp)) fun e u' w4 hq => ?_
                      obtain ⟨rfl, x, ρ3, rfl, m1, m2, m3⟩ := hq
                      have hF3 : FR ρ3 F2 a2.tmps := h2.mono m3.ren
                      obtain ⟨_, hS, y, n1, n2⟩ := results_sound fn hF3 g2 m2
                      subst hS
                      show LeavesInM (FF none) 0 P fn a2.tmps _ [] (settle .returning) w4
                      exact ⟨y, n2, y, ρ3, rfl, n1, m2, k4.trans (j2.trans m3)⟩
                    cases e with
                    | normal => exact fin (Option.some.inj h7).symm
                    | ret => exact fin h7
                    | exit i =>
                      have e0 : res0 = (.exit i, F2.outs (fn.results.toList.map ResultVar.slot), S2) := h7
                      subst e0
                      cases k1
                    | goto l => exact h7.elim
                    | panic ch => exact h7.elim
                    | outgrown => exact h7.elim
              | _ => cases k1
            | _ => rw [hev] at k1; cases k1
          | _ => rw [hcal] at k1; cases k1
      | _ => simp [deferAt] at hda
  | _ => intro F S ρ a w h; simp only [denD] at h; cases h
end
end
end Go.Abs
namespace Go.Abs
noncomputable section
set_option linter.unusedVariables false
set_option linter.unusedSimpArgs false
variable {P : Program} {ρ : Ren} {F : Fr} {a : Act} {o : Oper} {S : AH} {w : World}

/-- each body of the table is what its function was gone through to -/
def TblOk (P : Program) (tbl : Table) : Prop := ∀ f b, tbl f = some b → ∃ fn vars, P.funcs[f]? = some fn ∧ (fn.name == "runtime.NumGoroutine") = false ∧ b = denFn P fn vars

theorem denFn_body {call : CallF} {fuel : Nat} {fn : Func} {vars : List Nat} {args : List AV} {r : Tag × List AV × AH} (h : run P call fuel (denFn P fn vars args) S = some r) : ∃ c, fn.body = some c ∧ fits fn.ntmps c = true := by
  unfold denFn at h
  cases hb : fn.body with
  | none => rw [hb] at h; cases h
  | some c =>
    rw [hb] at h
    simp only at h
    cases hf : fits fn.ntmps c with
    | true => exact ⟨c, rfl, hf⟩
    | false => rw [hf] at h; cases h

theorem run_callFunc {g : FuncId} {fn : Func} {c : Code} {args : Array Value} (hf : P.funcs[g]? = some fn) (hn : (fn.name == "runtime.NumGoroutine") = false) (hb : fn.body = some c) :
    (callFunc g args).run P w = .ok (.enter g args) w := by
  have hn' : ¬ fn.name = "runtime.NumGoroutine" := by simpa using hn
  simp [callFunc, Sem.run_bind, program, Sem.run, hf, Result.andThen, hn', hb]

/-- a function of the table, entered -/
theorem enter_sound {call : CallF} {fuel : Nat} (hcall : CallSound P call) (hdef : DeferSound P call) {g : FuncId} {fn : Func} {vars : List Nat} {args vs : List AV} {xs : List Value} {S' : AH} (hf : P.funcs[g]? = some fn)
    (hx : VL ρ args xs) (h : run P call fuel (denFn P fn vars args) S = some (.ret, vs, S')) (hR : R P ρ S w) : CallsIn Fence.wide 0 P g xs.toArray w (CallPost P ρ S w (oneOf vs) S') := by
  obtain ⟨c, hb, hfit⟩ := denFn_body h
  cases hd : hasDefer c with
  | false => exact calls_of_post hf hb (body_sound hcall hb hd hx h hR (.inr trivial))
  | true =>
    have hF0 : FR ρ (Fr.puts .e (List.range (fn.params.size + fn.nfree)) 0 args) (xs.toArray ++ Array.replicate (fn.ntmps - xs.toArray.size) undef) := FR.args _ _ hx
    have hfit' : fits (xs.toArray ++ Array.replicate (fn.ntmps - xs.toArray.size) undef).size c = true := fits_mono (by simp; omega) hfit
    unfold denFn at h
    rw [hb] at h
    simp only [hfit, hd, Bool.not_true, Bool.false_eq_true, if_false, if_true] at h
    exact callsIn_of_wp_marks (F := FF none) hf hb trivial (denD_sound hcall hdef c _ S ρ { tmps := xs.toArray ++ Array.replicate (fn.ntmps - xs.toArray.size) undef, defers := [] } w h hR hF0 hfit' rfl)

/-! ### a round -/
theorem FR.fold {n : Nat} : ∀ (ps : List Nat) (xs : List Value) (F : Fr) (tmps : Array Value) (i : Nat) (vs : List AV), FR ρ F tmps → ps.length = xs.length → (∀ p ∈ ps, p < tmps.size) → (∀ j, V ρ (nth vs (i + j)) (xs.getD j undef)) →
    FR ρ (F.puts ps i vs) ((ps.zip xs).foldl (fun t (p : Nat × Value) => t.setIfInBounds p.1 p.2) tmps) ∧ ((ps.zip xs).foldl (fun t (p : Nat × Value) => t.setIfInBounds p.1 p.2) tmps).size = tmps.size
  | [], xs, F, tmps, i, vs, hF, hl, hp, hv => ⟨hF, rfl⟩
  | p :: ps, [], F, tmps, i, vs, hF, hl, hp, hv => by simp at hl
  | p :: ps, x :: xs, F, tmps, i, vs, hF, hl, hp, hv => by
    simp only [List.zip_cons_cons, List.foldl_cons, Fr.puts]
    have h1 : FR ρ (T.set F p (nth vs i)) (tmps.setIfInBounds p x) := by
      have := FR.put (a := { tmps := tmps, defers := [] }) hF (d := some p) (v := nth vs i) (x := x) (hv 0) (fun e he => by cases he; exact hp p (by simp))
      exact this
    obtain ⟨q1, q2⟩ := FR.fold (n := n) ps xs _ (tmps.setIfInBounds p x) (i + 1) vs h1 (by simpa using hl) (fun q hq => by rw [Array.size_setIfInBounds]; exact hp q (by simp [hq])) (fun j => by
      have := hv (j + 1)
      simpa [show i + (j + 1) = i + 1 + j by omega] using this)
    exact ⟨q1, by rw [q2, Array.size_setIfInBounds]⟩

theorem round_sound {call : CallF} {fuel : Nat} (hcall : CallSound P call) {l : Nat} {pend : Option Tag} {m : Nat} {body : List AV → AC} {args : List AV} {xs : List Value} {b o len : Nat} {t : Tag} {vs : List AV} {S' : AH} {v : AV} {S2 : AH}
    (hR : R P ρ S w) (hl : ρ l = some (b, o, len)) (hg : S.get l = some (.loop .ready pend m body)) (hx : VL ρ args xs) (hlen : args.length = m)
    (h : run P call fuel (body (.yd l :: args)) S = some (t, vs, S')) {p2 : Option Tag} {m2 : Nat} {b2 : List AV → AC} (hg2 : S'.get l = some (.loop .busy p2 m2 b2))
    (hv : (t = .normal ∧ v = .sc (.bool true) ∧ S2 = S'.set l (.loop .ready none m2 b2)) ∨ (t ≠ .normal ∧ v = .sc (.bool false) ∧ S2 = S'.set l (.loop .done (some t) m2 b2))) :
    ∃ g tmps asgn bd, (Instr.yield b xs.toArray).run P w = .ok (.round b g tmps asgn bd) w ∧ RoundIn Fence.wide 0 P b g tmps asgn bd w (CallPost P ρ S w v S2) := by
  obtain ⟨r, g1, g2, g3, g4, F0, vars, l1, l2, l3, l4, l5, l6⟩ := hR.objs hg hl
  have hlx : xs.length = r.params.size := by rw [g4, ← hlen]; exact hx.length.symm
  refine ⟨r.fn, _, r.assign, r.body, run_yield g1 (by simpa using hlx), ?_⟩
  have hfold : (r.params.zip xs.toArray).foldl (fun tmps (x : Tmp × Value) => tmps.setIfInBounds x.1 x.2) r.tmps = (r.params.toList.zip xs).foldl (fun t (p : Nat × Value) => t.setIfInBounds p.1 p.2) r.tmps := by
    rw [← Array.foldl_toList, Array.toList_zip]
  have hfold' : (r.params.zip xs.toArray).foldl (fun tmps (x : Tmp × Value) => match x with | (t, a) => tmps.setIfInBounds t a) r.tmps = (r.params.toList.zip xs).foldl (fun t (p : Nat × Value) => t.setIfInBounds p.1 p.2) r.tmps := hfold
  have hF1 := FR.fold (n := 0) r.params.toList xs F0 r.tmps 1 (.yd l :: args) l1 (by simpa using hlx.symm) l5 (fun j => by
    rw [Nat.add_comm]; exact hx.nthD j)
  rw [l6] at h
  rw [hfold']
  generalize (r.params.toList.zip xs).foldl (fun t (p : Nat × Value) => t.setIfInBounds p.1 p.2) r.tmps = tm at hF1 ⊢
  obtain ⟨hF1, hsz⟩ := hF1
  refine roundIn_of_wpIn (F := Fence.wide) trivial ?_
  show Code.wpIn (FF (some b)) 0 P r.assign _ _ w
  refine straight_sound (ro := some b) hcall r.assign _ _ S _ ρ { tmps := tm, defers := [] } w _ l2 h hR hF1 (by simp only [hsz]; exact l3) fun ρ1 S1 F1 a1 w1 k1 k2 k3 k4 k5 k6 => ?_
  have hl1 := k4.ren _ _ hl
  rw [run_start] at k1
  unfold runStart at k1
  have hn0 : nth (AV.yd l :: args) 0 = .yd l := rfl
  rw [hn0] at k1
  simp only at k1
  cases hgs : S1.get l with
  | none => rw [hgs] at k1; cases k1
  | some ob =>
    rw [hgs] at k1
    cases ob with
    | loop st pd n1 bd1 =>
      cases st with
      | ready =>
        simp only at k1
        obtain ⟨r1, m1, m2', m3, m4, m5⟩ := k2.objs hgs hl1
        refine ⟨w1.putObj b (.loop { r1 with state := .busy }), run_beginRound m1 m2', ?_⟩
        have hlt := (Array.getElem?_eq_some_iff.1 m1).1
        obtain ⟨hR2, hE2⟩ := k2.set (w' := w1.putObj b (.loop { r1 with state := .busy })) hgs rfl hl1 ⟨rfl, rfl, rfl⟩ World.putObj_size (fun k hk => World.putObj_heap_other hk)
          (ob' := .loop .busy pd n1 bd1) ⟨{ r1 with state := .busy }, World.putObj_heap_same hlt, rfl, m3, m4, m5⟩ rfl
        show Code.wpIn (FF (some b)) 0 P r.body _ a1 _
        refine wpIn_mono (den_sound hcall r.body true F1 [] _ _ _ ρ1 a1 _ (some b) (fun e => by cases e) k1 hR2 k3 (by simp only [k5, hsz]; exact l4)) fun e a3 w3 q => ?_
        obtain ⟨ρ3, S3, F3, ms, n1', n2, n3, n4, n5, n6, n7⟩ := q
        have hE3 : Ext ρ S w ρ3 S3 w3 := k4.trans (hE2.trans n3)
        have hl3 := hE3.ren _ _ hl
        have fin : (t, vs, S') = (t, vs, S3) → ∀ jump, (t = .normal ∧ jump = none ∨ t ≠ .normal ∧ ∃ j, jump = some j ∧ pendR (some t) (some j)) → ∃ v' w', (Instr.endRound b jump).run P w3 = .ok v' w' ∧ CallPost P ρ S w v S2 (.returned v') w' := by
          intro e0 jump hj
          have e1 : S' = S3 := by injection e0 with _ e0; injection e0
          rw [e1] at hg2 hv
          obtain ⟨r3, p1, p2', p3, p4, p5⟩ := n1'.objs hg2 hl3
          have hlt3 := (Array.getElem?_eq_some_iff.1 p1).1
          refine ⟨_, _, run_endRound jump p1, ?_⟩
          rcases hv with ⟨ht, rfl, rfl⟩ | ⟨ht, rfl, rfl⟩
          · rcases hj with ⟨_, rfl⟩ | ⟨hne, _⟩
            · obtain ⟨hR4, hE4⟩ := n1'.set (w' := w3.putObj b (.loop { r3 with state := .ready, pending := none })) hg2 rfl hl3 ⟨rfl, rfl, rfl⟩ World.putObj_size (fun k hk => World.putObj_heap_other hk)
                (ob' := .loop .ready none m2 b2) ⟨{ r3 with state := .ready, pending := none }, World.putObj_heap_same hlt3, rfl, trivial, p4, p5⟩ rfl
              exact ⟨_, ρ3, rfl, .sc rfl, hR4, hE3.trans hE4⟩
            · exact absurd ht hne
          · rcases hj with ⟨he, _⟩ | ⟨_, j, rfl, hp⟩
            · exact absurd he ht
            · obtain ⟨hR4, hE4⟩ := n1'.set (w' := w3.putObj b (.loop { r3 with state := .done, pending := some j })) hg2 rfl hl3 ⟨rfl, rfl, rfl⟩ World.putObj_size (fun k hk => World.putObj_heap_other hk)
                (ob' := .loop .done (some t) m2 b2) ⟨{ r3 with state := .done, pending := some j }, World.putObj_heap_same hlt3, rfl, hp, p4, p5⟩ rfl
              exact ⟨_, ρ3, rfl, .sc rfl, hR4, hE3.trans hE4⟩
        cases e with
        | normal =>
          have e0 : (t, vs, S') = (Tag.normal, [], S3) := (Option.some.inj n7).symm
          injection e0 with e1 e2
          injection e2 with e2 e3
          subst e1 e2 e3
          exact fin rfl none (.inl ⟨rfl, rfl⟩)
        | exit i =>
          have e0 : (t, vs, S') = (Tag.exit i, [], S3) := n7
          injection e0 with e1 e2
          injection e2 with e2 e3
          subst e1 e2 e3
          exact fin rfl _ (.inr ⟨by simp, _, rfl, rfl⟩)
        | ret =>
          have e0 : (t, vs, S') = (Tag.ret, [], S3) := n7
          injection e0 with e1 e2
          injection e2 with e2 e3
          subst e1 e2 e3
          exact fin rfl _ (.inr ⟨by simp, _, rfl, trivial⟩)
        | goto l => exact n7.elim
        | panic ch => exact n7.elim
        | outgrown => exact n7.elim
      | _ => cases k1
    | _ => cases k1
end
end Go.Abs
namespace Go.Abs
noncomputable section
set_option linter.unusedVariables false
set_option linter.unusedSimpArgs false
variable {P : Program} {ρ : Ren} {F : Fr} {a : Act} {o : Oper} {S : AH} {w : World}

/-- a method that was found -/
theorem run_method {t : TypeId} {v r : AV} {name : String} {f : FuncId} {x : Value} {n : Nat} (h : methodOf P t v name = some (f, r)) : r = v ∧ (method (n + 1) t x name).run P w = .ok (f, x) w := by
  unfold methodOf at h
  cases hi : P.info? t with
  | none => rw [hi] at h; cases h
  | some i =>
    rw [hi] at h
    simp only at h
    cases hm : i.methods.find? (·.name == name) with
    | none => rw [hm] at h; cases h
    | some m =>
      rw [hm] at h
      simp only at h
      cases hp : m.path.isEmpty with
      | false => rw [hp] at h; cases h
      | true =>
        rw [hp] at h
        simp only [if_true] at h
        have hpl : m.path.toList = [] := by simpa using hp
        cases hmf : m.func with
        | none => rw [hmf] at h; cases h
        | some q =>
          obtain ⟨f', pr⟩ := q
          rw [hmf] at h
          cases hu : P.underlying t with
          | none => rw [hu] at h; cases pr <;> cases h
          | some u =>
            rw [hu] at h
            have key : r = v ∧ f' = f ∧ (receiverAt t (.val x) pr (some ((name.splitOn ".").getLastD name))).run P w = .ok x w := by
              cases u <;> cases pr <;> simp at h <;> (obtain ⟨rfl, rfl⟩ := h; refine ⟨rfl, rfl, ?_⟩; simp [receiverAt, Sem.run_bind, run_underlying hu, Result.andThen, Place.get])
            obtain ⟨rfl, rfl, hrec⟩ := key
            refine ⟨rfl, ?_⟩
            have hti : (typeInfo t).run P w = .ok i w := by simp [typeInfo, Sem.run_bind, program, Sem.run, hi, Result.andThen]
            simp only [method, Sem.run_bind, hti, Result.andThen_ok, hm, hpl, follow, Sem.run_pure, hmf, hp, if_true, hrec]

theorem VL.app' : ∀ {a b : List AV} {xs ys : List Value}, VL ρ a xs → VL ρ b ys → VL ρ (a ++ b) (xs ++ ys)
  | [], _, _, _, .nil, k => k
  | _ :: _, _, _, _, .cons h1 h2, k => .cons h1 (VL.app' h2 k)
theorem VL.app {a b : List AV} {xs ys : List Value} (h : VL ρ a xs) (k : VL ρ b ys) : VL ρ (appL a b) (xs ++ ys) := by
  rw [appL_eq]; exact h.app' k

/-- what is known already is so -/
def KnOk (P : Program) (kn : Known) : Prop := ∀ f args v, kn f args = some v → ∀ ρ S w xs, R P ρ S w → VL ρ args xs →
  (callFunc f xs.toArray).run P w = .ok (.enter f xs.toArray) w ∧ CallsIn Fence.wide 0 P f xs.toArray w (CallPost P ρ S w v S) ∧
  (plainFn P f = true → ∀ u, u ≠ .run → CallsDIn Fence.wide 0 P f xs.toArray u w fun e u' w' => u' = u ∧ CallPost P ρ S w v S e w')
def noKn : Known := fun _ _ => none
theorem noKn_ok : KnOk P noKn := fun _ _ _ h => by cases h

theorem callT_sound {tbl : Table} {kn : Known} (hT : TblOk P tbl) (hk : KnOk P kn) : ∀ n, CallSound P (callT P tbl kn n) ∧ DeferSound P (callT P tbl kn n)
  | 0 => ⟨⟨fun h => by simp [callT] at h, fun h => by simp [callT] at h⟩, ⟨fun h => by simp [callT] at h⟩⟩
  | n + 1 => by
    obtain ⟨hcall, hdef⟩ := callT_sound hT hk n
    -- a function
    have hfun : ∀ {g fa fc args S v S' ρ w d}, callT P tbl kn (n + 1) (.fn (.func g) fa fc) args S = some (v, S') → R P ρ S w → CallArg ρ (.fn (.func g) fa fc) args d →
        ∃ cap ys, d.target = .fn (.func g) cap ∧ (invoke d.target d.args).run P w = .ok (.enter g ys) w ∧ CallsIn Fence.wide 0 P g ys w (CallPost P ρ S w v S') ∧
          (plainFn P g = true → ∀ u, u ≠ .run → CallsDIn Fence.wide 0 P g ys u w fun e u' w' => u' = u ∧ CallPost P ρ S w v S' e w') := by
      intro g fa fc args S v S' ρ w d h hR harg
      rcases harg with ⟨f', fa', fc', a', c', xs, e, k1, k2, k3, k4, k5⟩ | ⟨_, _, _, _, _, e, _⟩ | ⟨_, _, e, _⟩
      · cases e
        have hV := k1.app (k3.app k2)
        have hinv : (invoke d.target d.args).run P w = (callFunc g (a' ++ (xs ++ c')).toArray).run P w := by
          rw [k4, k5]
          show (callFunc g _).run P w = _
          simp
        refine ⟨c'.toArray, (a' ++ (xs ++ c')).toArray, k4, ?_⟩
        rw [hinv]
        simp only [callT] at h
        cases hkn : kn g (appL fa (appL args fc)) with
        | some v0 =>
          rw [hkn] at h
          cases h
          exact hk _ _ _ hkn _ _ _ _ hR hV
        | none =>
          rw [hkn] at h
          simp only at h
          cases hb : tbl g with
          | none => rw [hb] at h; cases h
          | some b =>
            rw [hb] at h
            simp only at h
            obtain ⟨fn, vars, h1, h2, rfl⟩ := hT g b hb
            cases hr : run P (callT P tbl kn n) n (denFn P fn vars (appL fa (appL args fc))) S with
            | none => rw [hr] at h; cases h
            | some q =>
              obtain ⟨t, vs, S1⟩ := q
              rw [hr] at h
              cases t with
              | ret =>
                cases h
                obtain ⟨c, hbd, _⟩ := denFn_body hr
                refine ⟨run_callFunc h1 h2 hbd, enter_sound hcall hdef h1 hV hr hR, fun hpl u hu => ?_⟩
                have hd : hasDefer c = false := by
                  unfold plainFn at hpl
                  rw [h1] at hpl
                  simp only [hbd] at hpl
                  simpa using hpl
                exact deferred_of_post h1 hbd (body_sound hcall hbd hd hV hr hR (.inr trivial))
              | _ => cases h
      · cases e
      · cases e
    refine ⟨⟨fun {f args S r} h => ?_, fun {f args S v S' ρ w d} h hR harg => ?_⟩, ⟨fun {g fa fc args S v S' ρ w d} h hpl hR harg => ?_⟩⟩
    · -- the form
      cases f with
      | fn f a b =>
        cases f with
        | func f => rfl
        | method m =>
          cases a with
          | nil => cases b with
            | nil => rfl
            | cons _ _ => simp [callT] at h
          | cons _ _ => simp [callT] at h
        | _ => simp [callT] at h
      | yd l => rfl
      | _ => simp [callT] at h
    · have hc : callable f = true := by
        cases f with
        | fn f a b =>
          cases f with
          | func f => rfl
          | method m =>
            cases a with
            | nil => cases b with
              | nil => rfl
              | cons _ _ => simp [callT] at h
            | cons _ _ => simp [callT] at h
          | _ => simp [callT] at h
        | yd l => rfl
        | _ => simp [callT] at h
      cases f with
      | fn f fa fc =>
        cases f with
        | func g =>
          obtain ⟨cap, ys, h1, h2, h3, _⟩ := hfun h hR harg
          exact .inl ⟨g, ys, h2, h3⟩
        | method name =>
          have hn : fa = [] ∧ fc = [] := by
            cases fa <;> cases fc <;> simp [callable] at hc
            exact ⟨rfl, rfl⟩
          obtain ⟨rfl, rfl⟩ := hn
          rcases harg with ⟨f', fa', fc', a', c', xs, e, k1, k2, k3, k4, k5⟩ | ⟨_, _, _, _, _, e, _⟩ | ⟨m, xs, e, k1, k2, k3⟩
          · cases e
          · cases e
          · cases e
            simp only [callT] at h
            cases args with
            | nil => cases h
            | cons x rest =>
              cases x with
              | iface t v0 =>
                simp only at h
                cases hm : methodOf P t v0 name with
                | none => rw [hm] at h; cases h
                | some q =>
                  obtain ⟨g, r⟩ := q
                  rw [hm] at h
                  simp only at h
                  cases k1 with
                  | cons q1 q2 =>
                    rename_i x xs
                    cases q1 with
                    | iface q1 =>
                      rename_i y
                      obtain ⟨k, hk⟩ : ∃ k, P.types.size + Made.depth = k + 1 := ⟨P.types.size + 99, rfl⟩
                      obtain ⟨rfl, hrun⟩ := run_method (w := w) (x := y) (n := k) hm
                      have harg' : CallArg ρ (.fn (.func g) [] []) (r :: rest) { target := .fn (.func g) #[], args := (y :: xs).toArray } :=
                        .inl ⟨g, [], [], [], [], y :: xs, rfl, .nil, .nil, .cons q1 q2, rfl, by simp⟩
                      rcases hcall.ok h hR harg' with ⟨g', ys, l1, l2⟩ | ⟨⟨_, e⟩, _⟩
                      · refine .inl ⟨g', ys, ?_, l2⟩
                        rw [k2, k3]
                        rw [← l1]
                        have e1 : (invoke (.fn (.func g) #[]) (y :: xs).toArray).run P w = (callFunc g (y :: xs).toArray).run P w := by simp [invoke]
                        rw [e1]
                        simp [invoke, callMethod, Sem.run_bind, program, Sem.run, hk, hrun, Result.andThen]
                      · cases e
              | _ => cases h
        | _ => simp [callable] at hc
      | yd l =>
        rcases harg with ⟨f', fa', fc', a', c', xs, e, k1, k2, k3, k4, k5⟩ | ⟨l', b, o, len, xs, e, k1, k2, k3, k4⟩ | ⟨_, _, e, _⟩
        · cases e
        · cases e
          simp only [callT] at h
          cases hg : S.get l with
          | none => rw [hg] at h; cases h
          | some ob =>
            rw [hg] at h
            cases ob with
            | loop st pend m body =>
              cases st with
              | ready =>
                simp only at h
                cases hbq : Nat.beq (lenL args) m with
                | false => rw [hbq] at h; cases h
                | true =>
                  rw [hbq] at h
                  simp only at h
                  have hlen : args.length = m := by rw [← lenL_eq]; exact Nat.eq_of_beq_eq_true hbq
                  cases hr : run P (callT P tbl kn n) n (body (.yd l :: args)) S with
                  | none => rw [hr] at h; cases h
                  | some q =>
                    obtain ⟨t, vs, S1⟩ := q
                    rw [hr] at h
                    simp only at h
                    cases hg2 : S1.get l with
                    | none => rw [hg2] at h; cases h
                    | some ob2 =>
                      rw [hg2] at h
                      cases ob2 with
                      | loop st2 p2 m2 b2 =>
                        cases st2 with
                        | busy =>
                          simp only at h
                          have hv : (t = .normal ∧ v = .sc (.bool true) ∧ S' = S1.set l (.loop .ready none m2 b2)) ∨ (t ≠ .normal ∧ v = .sc (.bool false) ∧ S' = S1.set l (.loop .done (some t) m2 b2)) := by
                            cases t with
                            | normal => cases h; exact .inl ⟨rfl, rfl, rfl⟩
                            | _ => cases h; exact .inr ⟨by simp, rfl, rfl⟩
                          obtain ⟨g, tmps, asgn, bd, l1, l2⟩ := round_sound hcall hR k1 hg k2 hlen hr hg2 hv
                          refine .inr ⟨⟨l, rfl⟩, b, g, tmps, asgn, bd, ?_, l2⟩
                          rw [k3, k4]
                          exact l1
                        | _ => cases h
                      | _ => cases h
              | _ => cases h
            | _ => cases h
        · cases e
      | _ => simp [callable] at hc
    · obtain ⟨cap, ys, h1, h2, _, h4⟩ := hfun h hR harg
      exact ⟨cap, ys, h1, h2, h4 hpl⟩
end
end Go.Abs
namespace Go.Abs
noncomputable section
open Go.RowKit Go.WideShapes Go.ChangeShapes
set_option linter.unusedVariables false
variable {P : Program}

/-- a world that has only grown -/
theorem below_of_ext {ρ ρ' : Ren} {S S' : AH} {w w' : World} (hno : ∀ id o, S.get id = some o → isRo o = true) (hE : Ext ρ S w ρ' S' w') : Below w.heap.size w w' :=
  ⟨hE.os, hE.tape, hE.output, hE.size, fun k hk => hE.frame k hk fun ⟨id, ob, o, l, h1, h2, _⟩ => by rw [hno id ob h1] at h2; cases h2⟩

theorem trodAll_len {H : Type} {enc : TypeId × Value → H} {W : World} {b : Nat} {sp : Nat → Bool} {hd : Bool} : ∀ {ts : List TypeId} {vs : List Value} {ds : List (DataW H)} {ps : List MemPlace}, DataW.TrodAll enc P W b sp hd ts vs ds ps → ds.length = ts.length
  | [], [], [], _, _ => rfl
  | [], _ :: _, _, _, h => h.elim
  | [], [], _ :: _, _, h => h.elim
  | _ :: _, [], _, _, h => h.elim
  | _ :: _, _ :: _, [], _, h => h.elim
  | t :: ts, v :: vs, d :: ds, ps, h => by
    obtain ⟨p, q, h1, h2, rfl⟩ := h
    simp [trodAll_len h2]
/-- the arguments read as they did -/
theorem trodAll_stays {H : Type} {enc : TypeId × Value → H} (hl : laidOutB P = true) {W W' : World} {sp : Nat → Bool} : ∀ {ts : List TypeId} {vs : List Value} {ds : List (DataW H)} {ps : List MemPlace},
    ts.all (fun t => P.readableRec t && decide (t < P.types.size)) = true → DataW.TrodAll enc P W 0 (fun _ => true) true ts vs ds ps → (∀ p ∈ ps, W.sameAt W' p) → (∀ p ∈ ps, sp p.block = true) → DataW.TrodAll enc P W' 0 sp true ts vs ds ps
  | [], [], [], _, _, h, _, _ => h
  | [], _ :: _, _, _, _, h, _, _ => h.elim
  | [], [], _ :: _, _, _, h, _, _ => h.elim
  | _ :: _, [], _, _, _, h, _, _ => h.elim
  | _ :: _, _ :: _, [], _, _, h, _, _ => h.elim
  | t :: ts, v :: vs, d :: ds, ps, hr, h, hs, hp => by
    simp only [List.all_cons, Bool.and_eq_true, decide_eq_true_eq] at hr
    obtain ⟨p, q, h1, h2, rfl⟩ := h
    exact ⟨p, q, WideElems.Trod_stays hl hr.1.1 hr.1.2 h1 (fun x hx => hs x (by simp [hx])) (fun x hx => hp x (by simp [hx])),
      trodAll_stays hl hr.2 h2 (fun x hx => hs x (by simp [hx])) (fun x hx => hp x (by simp [hx])), rfl⟩

/-- one result, a bool -/
def boolRes (P : Program) (f : Func) : Bool := match f.resultTypes.toList with
  | [t] => match P.underlying t with
    | some .bool => true
    | _ => false
  | _ => false
theorem boolRes_some {f : Func} (h : boolRes P f = true) : ∃ t, f.resultTypes = #[t] ∧ P.underlying t = some .bool := by
  unfold boolRes at h
  split at h
  · rename_i t ht
    split at h
    · exact ⟨t, Array.toList_inj.1 ht, by assumption⟩
    · cases h
  · cases h
/-- what a statement asks behind the call: true, and the arguments as they were -/
theorem law_post {H : Type} {enc : TypeId × Value → H} {f : Func} {s : ChangeSpec} {apart fresh handsOn again : Bool} {W W' : World} {args : Array Value} {ds gs : List (DataW H)} {before : List MemPlace}
    (hl : laidOutB P = true) (hres0 : boolRes P f = true) (hread : f.params.toList.all (fun t => P.readableRec t && decide (t < P.types.size)) = true) (hvars : s.vars = [])
    (hfn : ∀ ds : List (DataW H), ds.length = f.params.size → s.fn H ds = { results := [.lit (.bool true)], args := ds })
    (hW : DataW.Whole enc P f.params.toList s.vars apart W args.toList ds gs before) (hb : Below W.heap.size W W') : s.post enc P f apart fresh handsOn again W args (.bool true) W' := by
  have hW0 := hW
  obtain ⟨tb, hrt, htb⟩ := boolRes_some hres0
  obtain ⟨p, q, hA, hV, rfl, hfz, hnd⟩ := hW
  rw [hvars] at hV
  obtain ⟨rfl, rfl⟩ := trodVars_none hV
  have hlen : ds.length = f.params.size := by have := trodAll_len hA; simpa using this
  have hlt : ∀ x ∈ p, x.block < W.heap.size := fun x hx => hW0.lt x (by simp [hx])
  have hargs : ∀ sp : Nat → Bool, (∀ x ∈ p ++ [], sp x.block = true) → DataW.TrodAll enc P W' 0 sp true f.params.toList args.toList ds p := fun sp hsp =>
    trodAll_stays hl hread hA (fun x hx => hb.same (hlt x hx)) (fun x hx => hsp x (by simp [hx]))
  have hfn' : s.fn H (ds ++ []) = { results := [.lit (.bool true)], args := ds } := by rw [List.append_nil]; exact hfn ds hlen
  have hres : ∀ (b : Nat) (sp : Nat → Bool) (hd : Bool), DataW.TrodAll enc P W' b sp hd f.resultTypes.toList ((Value.bool true).resultList f.resultTypes.size) (s.fn H (ds ++ [])).results [] := fun b sp hd => by
    rw [hfn', hrt]
    exact trodAll_mk1 (shut_bool htb true)
  have hok : ∀ (j : Nat) (t : TypeId) (r : Value), f.resultTypes[j]? = some t → ((Value.bool true).resultList f.resultTypes.size)[j]? = some r → Value.okWide P W' .any 0 t r := by
    intro j t r h1 h2
    rw [hrt] at h1 h2
    cases j with
    | zero =>
      simp only [List.getElem?_toArray, List.getElem?_cons_zero, Option.some.injEq] at h1
      simp only [Value.resultList] at h2
      simp at h2
      subst h1 h2
      exact okWide_bool_mk htb true
    | succ j => simp at h1
  have hlt' : ∀ x ∈ p ++ [], x.block < W.heap.size := fun x hx => hW0.lt x (by simpa using hx)
  have hold : ∀ x ∈ p ++ [], (fun b => decide (b < W.heap.size)) x.block = true := fun x hx => by simpa using hlt' x hx
  refine ⟨ds, [], p ++ [], [], p, [], hW0, hres _ _ _, by rw [hfn']; exact hargs _ hold, by rw [hvars, hfn']; exact (rfl : DataW.TrodVars enc P W' _ [] [] []), World.keptBut_mono (fun x hx => ⟨hx, Or.inr (by simpa using hx)⟩) (hb.frame (· ∈ p ++ [])), fun _ => ?_⟩
  refine ⟨hok, _, [], ([] ++ p) ++ [], ⟨[] ++ p, [], trodAll_append (hargs _ (fun _ _ => rfl)) (hres _ _ _), by rw [hvars]; exact (rfl : DataW.TrodVars enc P W' _ [] [] []), rfl, ?_, ?_⟩, ?_⟩
  · intro b off hp
    have hin : MemPlace.cell b off ∈ p ++ [] := by simpa using hp
    rw [hb.frozen (hlt' _ hin)]
    exact hfz b off (by simpa using hin)
  · intro ha
    have := hnd ha
    simpa using this
  · intro x hx _
    simpa using hx
end
end Go.Abs
namespace Go.Abs
noncomputable section
open Go.RowKit Go.WideShapes Go.ChangeShapes
variable {P : Program}

/-! ### the table -/
def T.All {α : Type} (p : Nat → α → Prop) : T α → Nat → Nat → Prop
  | .e, _, _ => True
  | .n l v r, a, b => T.All p l (a + b) (2 * b) ∧ (match v with | some x => p a x | none => True) ∧ T.All p r (a + 2 * b) (2 * b)
theorem T.All.get {α : Type} {p : Nat → α → Prop} : ∀ {t : T α} {a b : Nat}, T.All p t a b → ∀ {k : Nat} {x : α}, T.get t k = some x → p (a + b * k) x
  | .e, a, b, h, k, x, hx => by simp [T.get] at hx
  | .n l v r, a, b, h, k, x, hx => by
    obtain ⟨h1, h2, h3⟩ := h
    unfold T.get at hx
    cases k with
    | zero =>
      simp only at hx
      subst hx
      simpa using h2
    | succ k =>
      simp only at hx
      have hk := Nat.div_add_mod k 2
      split at hx
      · rename_i hm
        have hm' : k % 2 = 0 := Nat.eq_of_beq_eq_true hm
        have := h1.get hx
        have e : a + b + 2 * b * (k / 2) = a + b * (k + 1) := by
          have : k = 2 * (k / 2) := by omega
          generalize k / 2 = j at this ⊢
          subst this
          rw [Nat.mul_add, Nat.mul_comm 2 b, Nat.mul_assoc]; omega
        exact e ▸ this
      · rename_i hm
        have hm' : k % 2 = 1 := by
          have : k % 2 ≠ 0 := fun e => hm (by rw [show Nat.mod k 2 = k % 2 from rfl, e]; rfl)
          omega
        have := h3.get hx
        have e : a + 2 * b + 2 * b * (k / 2) = a + b * (k + 1) := by
          have : k = 2 * (k / 2) + 1 := by omega
          generalize k / 2 = j at this ⊢
          subst this
          rw [show b * (2 * j + 1 + 1) = 2 * b * j + 2 * b by
            rw [Nat.mul_add, Nat.mul_add, Nat.mul_comm 2 b, Nat.mul_assoc]; omega]
          omega
        exact e ▸ this
def EntOk (P : Program) (f : Nat) (b : List AV → AC) : Prop := ∃ fn vars, P.funcs[f]? = some fn ∧ (fn.name == "runtime.NumGoroutine") = false ∧ b = denFn P fn vars
theorem tblOk_of {t : T (List AV → AC)} (h : T.All (EntOk P) t 0 1) : TblOk P fun f => T.get t f := fun f b hb => by
  have := h.get hb
  rw [Nat.zero_add, Nat.one_mul] at this
  exact this

/-! ### a statement, out of a run of the abstract machine -/
def isTrue : Option (AV × AH) → Bool
  | some (.sc (.bool true), _) => true
  | _ => false
theorem isTrue_some {r : Option (AV × AH)} (h : isTrue r = true) : ∃ S', r = some (.sc (.bool true), S') := by
  unfold isTrue at h
  split at h
  · exact ⟨_, rfl⟩
  · cases h
theorem R.nothing (P : Program) (w : World) : R P (fun _ => none) ⟨.e, 0⟩ w where
  objs := fun h => by simp [AH.get, getK] at h
  inj := fun h => by simp [AH.get, getK] at h
  dom := fun h => by cases h
  blk := fun h => by cases h
  wf := fun h => by simp [AH.get, getK] at h

/-- a call that answers true, and turns nothing that was there -/
theorem calls_of_run {tbl : Table} {kn : Known} (hT : TblOk P tbl) (hk : KnOk P kn) {n : Nat} {f : FuncId} {as : List AV} {S : AH} {ρ : Ren} {W : World} {args : Array Value}
    (hrun : isTrue (callT P tbl kn n (.fn (.func f) [] []) as S) = true) (hR : R P ρ S W) (hV : VL ρ as args.toList) (hro : ∀ id o, S.get id = some o → isRo o = true)
    (hent : ∀ w, (callFunc f args).run P w = .ok (.enter f args) w) :
    Calls P f args W fun e W' => e = .returned (.bool true) ∧ Below W.heap.size W W' := by
  obtain ⟨S', hrun⟩ := isTrue_some hrun
  have harg : CallArg ρ (.fn (.func f) [] []) as { target := .fn (.func f) #[], args := args } := .inl ⟨f, [], [], [], [], args.toList, rfl, .nil, .nil, hV, rfl, by simp⟩
  rcases (callT_sound hT hk n).1.ok hrun hR harg with ⟨g, ys, h1, h2⟩ | ⟨⟨_, e⟩, _⟩
  · have hn : (invoke (.fn (.func f) #[]) args).run P W = (callFunc f args).run P W := by simp [invoke]
    rw [hn, hent] at h1
    cases h1
    refine (callsIn_wide.1 h2).mono fun e W' q => ?_
    obtain ⟨x, ρ', rfl, q1, q2, q3⟩ := q
    exact ⟨by rw [q1.sc_inv.1], below_of_ext hro q3⟩
  · cases e

/-- a function of the table can be entered -/
theorem ent_of {f : FuncId} {fn : Func} (hf : P.funcs[f]? = some fn) (hn : (fn.name == "runtime.NumGoroutine") = false) (hb : fn.body.isSome = true) (args : Array Value) (w : World) : (callFunc f args).run P w = .ok (.enter f args) w := by
  cases h : fn.body with
  | none => rw [h] at hb; cases hb
  | some c => exact run_callFunc hf hn h

/-! ### closed calls, once and for all -/
theorem R.grown {ρ : Ren} {S : AH} {w w' : World} (h : R P ρ S w) (hb : Below w.heap.size w w') : R P ρ S w' ∧ Ext ρ S w ρ S w' :=
  ⟨⟨fun h1 h2 => (h.objs h1 h2).mono (Ren.le_refl _) (hb.block _ (h.blk h2)), h.inj, h.dom, fun h1 => Nat.lt_of_lt_of_le (h.blk h1) hb.size, h.wf⟩,
   ⟨Ren.le_refl _, Nat.le_refl _, fun id x h1 h2 => by (rw [h1] at h2; cases h2), fun _ _ _ => rfl, hb.os, hb.tape, hb.output, hb.size, fun b h1 _ => hb.block b h1, fun _ _ h => h⟩⟩
/-- functions without arguments, and what they answer -/
def knOf : List (FuncId × Value) → Known
  | [], _, _ => none
  | (f, v) :: r, g, as => match Nat.beq g f with
    | true => match as with
      | [] => some (.sc v)
      | _ => none
    | false => knOf r g as
def runsTo (v : AV) : Option (AV × AH) → Bool
  | some (u, _) => u.beq v
  | none => false
theorem knOf_ok {tbl : Table} (hT : TblOk P tbl) : ∀ {l : List (FuncId × Value)}, (∀ x ∈ l, (∃ n S', callT P tbl noKn n (.fn (.func x.1) [] []) [] ⟨.e, 0⟩ = some (.sc x.2, S')) ∧ ∀ w, (callFunc x.1 #[]).run P w = .ok (.enter x.1 #[]) w) → KnOk P (knOf l)
  | [], _ => fun _ _ _ h => by cases h
  | (f, v) :: r, hl => by
    intro g as u h ρ S w xs hR hV
    unfold knOf at h
    cases hb : Nat.beq g f with
    | false =>
      rw [hb] at h
      exact knOf_ok hT (l := r) (fun x hx => hl x (by simp [hx])) _ _ _ h _ _ _ _ hR hV
    | true =>
      have e := Nat.eq_of_beq_eq_true hb
      subst e
      rw [hb] at h
      cases as with
      | cons _ _ => cases h
      | nil =>
        cases h
        cases hV
        obtain ⟨⟨n, S', hrun⟩, hent⟩ := hl (g, v) (by simp)
        have harg : CallArg (fun _ => none) (.fn (.func g) [] []) [] { target := .fn (.func g) #[], args := #[] } := .inl ⟨g, [], [], [], [], [], rfl, .nil, .nil, .nil, rfl, rfl⟩
        have hn : (invoke (.fn (.func g) #[]) #[]).run P w = (callFunc g #[]).run P w := by simp [invoke]
        have post : ∀ e w', CallPost P (fun _ => none) ⟨.e, 0⟩ w (.sc v) S' e w' → CallPost P ρ S w (.sc v) S e w' := by
          rintro e w' ⟨x, ρ', rfl, q1, q2, q3⟩
          obtain ⟨h1, h2⟩ := hR.grown (below_of_ext (fun id o h => by simp [AH.get, getK] at h) q3)
          obtain ⟨rfl, hs⟩ := q1.sc_inv
          exact ⟨_, ρ, rfl, .sc hs, h1, h2⟩
        refine ⟨hent w, ?_, fun hpl u hu => ?_⟩
        · rcases (callT_sound hT noKn_ok n).1.ok hrun (R.nothing P w) harg with ⟨g', ys, h1, h2⟩ | ⟨⟨_, e⟩, _⟩
          · rw [hn, hent] at h1
            cases h1
            exact h2.mono (post)
          · cases e
        · obtain ⟨cap, ys, h0, h1, h2⟩ := (callT_sound hT noKn_ok n).2.ok hrun hpl (R.nothing P w) harg
          rw [hn, hent] at h1
          cases h1
          exact (h2 u hu).mono fun e u' w' q => ⟨q.1, post e w' q.2⟩
end
end Go.Abs
