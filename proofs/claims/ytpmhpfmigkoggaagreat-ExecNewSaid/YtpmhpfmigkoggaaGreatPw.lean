/- ExecNew: whatever the input, the statement answers true, and what is handed in reads as before. No condition. -/
import Derived.Test.YtpmhpfmigkoggaaGreatG
namespace Go.Proofs.YtpmhpfmigkoggaaGreat.ExecNewOf
open Go.Abs
set_option maxRecDepth 1000000
theorem lifted (os : Os) (started : os.Started) (H : Type) (enc : TypeId × Value → H) :
    ReturnsInHanded {} Tryz.checked os 4 .any (Rows.execNewSpec.pre6 enc Tryz.prog Tryz.f4 Rows.execNewRow.domain false) (Rows.execNewSpec.post enc Tryz.prog Tryz.f4 false true false false) := by
  refine returnsInHanded_of_change (C := Tryz.checked) own started (by kernel_rfl) Tryz.func4
    (ChangeSpec.witness6 (enc := enc) (C := Tryz.checked) false ⟨#[], #[.agg #[.int .i64 0, .int .i64 0, .int .i64 0, .int .i64 0, .int .i64 0, .int .i64 0, .int .i64 0, .int .i64 0, .int .i64 0, .int .i64 0, .int .i64 0, .int .i64 0, .int .i64 0, .int .i64 0, .int .i64 0, .int .i64 0, .int .i64 0, .int .i64 0, .int .i64 0, .int .i64 0, .int .i64 0, .int .i64 0, .int .i64 0, .int .i64 0, .int .i64 0, .int .i64 0, .int .i64 0, .int .i64 0, .slice none 0 0], .int .i64 0, .int .i64 0, .int .i64 0, .int .i64 0], []⟩ 8 (by kernel_rfl) (by kernel_rfl) (by kernel_rfl) (by kernel_rfl)) ?_
  intro W base args ds gs before hval0 hW hcnd _
  have hval : ∀ (j : Nat) t v, Tryz.f4.params[j]? = some t → args[j]? = some v → Value.okWide Tryz.prog W .any base t v := hval0
  have hW' := hW
  obtain ⟨p, q, hA0, hV, rfl, hfz, hnd⟩ := hW
  have hA : DataW.TrodAll enc Tryz.prog W 0 (fun _ => true) true Tryz.f4.params.toList args.toList ds p := hA0
  rw [Tryz.params4] at hA hval
  obtain ⟨v0, vs0, d0, ds0, p0, q0, hargs, rfl, rfl, h0, hA⟩ := Go.ChangeShapes.trodAll_cons hA
  obtain ⟨v1, vs1, d1, ds1, p1, q1, rfl, rfl, rfl, h1, hA⟩ := Go.ChangeShapes.trodAll_cons hA
  obtain ⟨v2, vs2, d2, ds2, p2, q2, rfl, rfl, rfl, h2, hA⟩ := Go.ChangeShapes.trodAll_cons hA
  obtain ⟨v3, vs3, d3, ds3, p3, q3, rfl, rfl, rfl, h3, hA⟩ := Go.ChangeShapes.trodAll_cons hA
  obtain ⟨v4, vs4, d4, ds4, p4, q4, rfl, rfl, rfl, h4, hA⟩ := Go.ChangeShapes.trodAll_cons hA
  obtain ⟨rfl, rfl, rfl⟩ := Go.ChangeShapes.trodAll_nil hA
  obtain rfl : args = #[v0, v1, v2, v3, v4] := Array.toList_inj.1 hargs
  have O5 := Open.nil Tryz.prog W
  obtain ⟨x4, rfl, rfl, rfl, _⟩ := Go.ChangeShapes.open_int undInt (hval 4 3 v4 rfl rfl) h4
  have O4 := O5.one (Abs.V.sc (v := .int .i64 x4) rfl)
  obtain ⟨x3, rfl, rfl, rfl, _⟩ := Go.ChangeShapes.open_int undInt (hval 3 3 v3 rfl rfl) h3
  have O3 := O4.one (Abs.V.sc (v := .int .i64 x3) rfl)
  obtain ⟨x2, rfl, rfl, rfl, _⟩ := Go.ChangeShapes.open_int undInt (hval 2 3 v2 rfl rfl) h2
  have O2 := O3.one (Abs.V.sc (v := .int .i64 x2) rfl)
  obtain ⟨x1, rfl, rfl, rfl, _⟩ := Go.ChangeShapes.open_int undInt (hval 1 3 v1 rfl rfl) h1
  have O1 := O2.one (Abs.V.sc (v := .int .i64 x1) rfl)
  obtain ⟨ns0, w0, rfl, hn0, hr0, ho0, hw0⟩ := open_aggS2 aggE sizeE sizeSl undTasks flatTask sizeTask (hval 0 42 v0 rfl rfl) h0
  obtain ⟨a0, S0, ρ0, L0, P0, hg0, hsl0, _, hK0⟩ := O1.slice hw0
  have O0 := P0.aggS ho0 ns0
  obtain ⟨l0, hl0⟩ := tks_of (fun vs hvs => (hK0 vs hvs).1)
  rw [hl0] at hsl0
  obtain ⟨y0, hy0⟩ := ex_of hn0 hr0
  rw [hy0] at O0
  obtain ⟨n, hrun⟩ := wpC_true (execNew_ok (e := y0) hsl0)
  refine (calls_of_run (P := Tryz.prog) Tryz.tblOk known hrun O0.r O0.v O0.ro (ent_of Tryz.func4 (by kernel_rfl) (by kernel_rfl) _)).mono fun e W' ⟨he, hb⟩ => ⟨_, he, ?_⟩
  exact law_post Facts.laidOut (by kernel_rfl) (by kernel_rfl) rfl (fun ds h => by
    match ds, h with
    | [_, _, _, _, _], _ => rfl) hW' hb
theorem j2 : (Rows.execNewRow.inPlace == Tryz.checked.prog.inPlace 4) = true := by kernel_rfl
theorem j3 : (Rows.execNewRow.unfollowed == Tryz.checked.prog.unfollowed 4) = true := by kernel_rfl
theorem j4 : (Rows.execNewRow.recurses == Tryz.checked.prog.recurses 4) = true := by kernel_rfl
theorem j5 : (Rows.execNewRow.named == Tryz.checked.prog.varsNamed 4) = true := by kernel_rfl
theorem j6 : (Rows.execNewRow.plainKeys == Tryz.checked.prog.plainKeys) = true := by kernel_rfl
theorem j9 : (Rows.execNewRow.lifted == Tryz.checked.prog.liftsFinal) = true := by kernel_rfl
theorem closed : joinedFacts Tryz.checked.prog 4 Tryz.f4 Rows.execNewSpec Rows.execNewRow = true := by
  unfold joinedFacts
  rw [Facts.laidOut, Facts.rowed, j2, j3, j4, j5, j6, Facts.heard, Facts.enters, j9]
  kernel_rfl
theorem inst : Tryz.f4.isInstance Tryz.checked.prog Rows.execNewRow.origin Rows.execNewRow.targs := of_decide_eq_true (by kernel_rfl)
theorem holds : Rows.ExecNewSaid :=
  OpenClaim.holds_of_wide 4 Tryz.f4 rfl rfl rfl rfl rfl rfl rfl ⟨rfl, rfl, rfl, rfl, rfl⟩ rfl rfl rfl rfl rfl (by kernel_rfl) Tryz.func4 closed
    inst (by unfold Func.isWrapper; first | (rw [if_pos (by decide +kernel)]; kernel_rfl) | (rw [if_neg (by decide +kernel)]; exact ⟨rfl, rfl⟩))
    (fun os started H enc _ => lifted os started H enc)
end Go.Proofs.YtpmhpfmigkoggaaGreat.ExecNewOf
