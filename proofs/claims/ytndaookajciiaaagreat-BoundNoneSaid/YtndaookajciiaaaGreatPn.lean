/- BoundNone: whatever the input, the statement answers true, and what is handed in reads as before. No condition. -/
import Derived.Test.YtndaookajciiaaaGreatG
namespace Go.Proofs.YtndaookajciiaaaGreat.BoundNoneOf
open Go.Abs
set_option maxRecDepth 1000000
theorem lifted (os : Os) (started : os.Started) (H : Type) (enc : TypeId × Value → H) :
    ReturnsInHanded {} Tryz.checked os 5 .any (Rows.boundNoneSpec.pre6 enc Tryz.prog Tryz.f5 Rows.boundNoneRow.domain false) (Rows.boundNoneSpec.post enc Tryz.prog Tryz.f5 false true false false) := by
  refine returnsInHanded_of_change (C := Tryz.checked) own started (by kernel_rfl) Tryz.func5
    (ChangeSpec.witness6 (enc := enc) (C := Tryz.checked) false ⟨#[], #[.slice none 0 0, .int .i64 0], []⟩ 8 (by kernel_rfl) (by kernel_rfl) (by kernel_rfl) (by kernel_rfl)) ?_
  intro W base args ds gs before hval0 hW hcnd _
  have hval : ∀ (j : Nat) t v, Tryz.f5.params[j]? = some t → args[j]? = some v → Value.okWide Tryz.prog W .any base t v := hval0
  have hW' := hW
  obtain ⟨p, q, hA0, hV, rfl, hfz, hnd⟩ := hW
  have hA : DataW.TrodAll enc Tryz.prog W 0 (fun _ => true) true Tryz.f5.params.toList args.toList ds p := hA0
  rw [Tryz.params5] at hA hval
  obtain ⟨v0, vs0, d0, ds0, p0, q0, hargs, rfl, rfl, h0, hA⟩ := Go.ChangeShapes.trodAll_cons hA
  obtain ⟨v1, vs1, d1, ds1, p1, q1, rfl, rfl, rfl, h1, hA⟩ := Go.ChangeShapes.trodAll_cons hA
  obtain ⟨rfl, rfl, rfl⟩ := Go.ChangeShapes.trodAll_nil hA
  obtain rfl : args = #[v0, v1] := Array.toList_inj.1 hargs
  have O2 := Open.nil Tryz.prog W
  obtain ⟨x1, rfl, rfl, rfl, _⟩ := Go.ChangeShapes.open_int undInt (hval 1 3 v1 rfl rfl) h1
  have O1 := O2.one (Abs.V.sc (v := .int .i64 x1) rfl)
  obtain ⟨a0, S0, ρ0, L0, O0, hg0, hsl0, _, hK0, hc0⟩ := O1.sliceC (open_flat undInts flatInt sizeInt (hval 0 46 v0 rfl rfl) h0)
  have hw : wpC EM (.fn (.func 5) [] []) [a0, I x1] S0 fun r _ => r = B true := by
    rcases hc0 with ⟨rfl, rfl⟩ | ⟨c, len, cap, rfl, rfl⟩
    · exact boundNone_e x1
    · exact boundNone_s x1 len
  obtain ⟨n, hrun⟩ := wpC_true (hw)
  refine (calls_of_run (P := Tryz.prog) Tryz.tblOk known hrun O0.r O0.v O0.ro (ent_of Tryz.func5 (by kernel_rfl) (by kernel_rfl) _)).mono fun e W' ⟨he, hb⟩ => ⟨_, he, ?_⟩
  exact law_post Facts.laidOut (by kernel_rfl) (by kernel_rfl) rfl (fun ds h => by
    match ds, h with
    | [_, _], _ => rfl) hW' hb
theorem j2 : (Rows.boundNoneRow.inPlace == Tryz.checked.prog.inPlace 5) = true := by kernel_rfl
theorem j3 : (Rows.boundNoneRow.unfollowed == Tryz.checked.prog.unfollowed 5) = true := by kernel_rfl
theorem j4 : (Rows.boundNoneRow.recurses == Tryz.checked.prog.recurses 5) = true := by kernel_rfl
theorem j5 : (Rows.boundNoneRow.named == Tryz.checked.prog.varsNamed 5) = true := by kernel_rfl
theorem j6 : (Rows.boundNoneRow.plainKeys == Tryz.checked.prog.plainKeys) = true := by kernel_rfl
theorem j9 : (Rows.boundNoneRow.lifted == Tryz.checked.prog.liftsFinal) = true := by kernel_rfl
theorem closed : joinedFacts Tryz.checked.prog 5 Tryz.f5 Rows.boundNoneSpec Rows.boundNoneRow = true := by
  unfold joinedFacts
  rw [Facts.laidOut, Facts.rowed, j2, j3, j4, j5, j6, Facts.heard, Facts.enters, j9]
  kernel_rfl
theorem inst : Tryz.f5.isInstance Tryz.checked.prog Rows.boundNoneRow.origin Rows.boundNoneRow.targs := of_decide_eq_true (by kernel_rfl)
theorem holds : Rows.BoundNoneSaid :=
  OpenClaim.holds_of_wide 5 Tryz.f5 rfl rfl rfl rfl rfl rfl rfl ⟨rfl, rfl, rfl, rfl, rfl⟩ rfl rfl rfl rfl rfl (by kernel_rfl) Tryz.func5 closed
    inst (by unfold Func.isWrapper; first | (rw [if_pos (by decide +kernel)]; kernel_rfl) | (rw [if_neg (by decide +kernel)]; exact ⟨rfl, rfl⟩))
    (fun os started H enc _ => lifted os started H enc)
end Go.Proofs.YtndaookajciiaaaGreat.BoundNoneOf
