/- ExecNone: whatever the input, the statement answers true, and what is handed in reads as before. No condition. -/
import Derived.Test.YtippeihoaapmpaaGreatN
namespace Go.Proofs.YtippeihoaapmpaaGreat.ExecNoneOf
open Go.Abs
set_option maxRecDepth 1000000
theorem lifted (os : Os) (started : os.Started) (H : Type) (enc : TypeId × Value → H) :
    ReturnsInHanded {} Tryz.checked os 9 .any (Rows.execNoneSpec.pre6 enc Tryz.prog Tryz.f9 Rows.execNoneRow.domain false) (Rows.execNoneSpec.post enc Tryz.prog Tryz.f9 false true false false) := by
  refine returnsInHanded_of_change (C := Tryz.checked) own started (by kernel_rfl) Tryz.func9
    (ChangeSpec.witness6 (enc := enc) (C := Tryz.checked) false ⟨#[], #[.int .i64 0], []⟩ 8 (by kernel_rfl) (by kernel_rfl) (by kernel_rfl) (by kernel_rfl)) ?_
  intro W base args ds gs before hval0 hW hcnd _
  have hval : ∀ (j : Nat) t v, Tryz.f9.params[j]? = some t → args[j]? = some v → Value.okWide Tryz.prog W .any base t v := hval0
  have hW' := hW
  obtain ⟨p, q, hA0, hV, rfl, hfz, hnd⟩ := hW
  have hA : DataW.TrodAll enc Tryz.prog W 0 (fun _ => true) true Tryz.f9.params.toList args.toList ds p := hA0
  rw [Tryz.params9] at hA hval
  obtain ⟨v0, vs0, d0, ds0, p0, q0, hargs, rfl, rfl, h0, hA⟩ := Go.ChangeShapes.trodAll_cons hA
  obtain ⟨rfl, rfl, rfl⟩ := Go.ChangeShapes.trodAll_nil hA
  obtain rfl : args = #[v0] := Array.toList_inj.1 hargs
  have O1 := Open.nil Tryz.prog W
  obtain ⟨x0, rfl, rfl, rfl, _⟩ := Go.ChangeShapes.open_int undInt (hval 0 3 v0 rfl rfl) h0
  have O0 := O1.one (Abs.V.sc (v := .int .i64 x0) rfl)
  have hrun := noneRuns x0
  refine (calls_of_run (P := Tryz.prog) Tryz.tblOk known hrun O0.r O0.v O0.ro (ent_of Tryz.func9 (by kernel_rfl) (by kernel_rfl) _)).mono fun e W' ⟨he, hb⟩ => ⟨_, he, ?_⟩
  exact law_post Facts.laidOut (by kernel_rfl) (by kernel_rfl) rfl (fun ds h => by
    match ds, h with
    | [_], _ => rfl) hW' hb
theorem j2 : (Rows.execNoneRow.inPlace == Tryz.checked.prog.inPlace 9) = true := by kernel_rfl
theorem j3 : (Rows.execNoneRow.unfollowed == Tryz.checked.prog.unfollowed 9) = true := by kernel_rfl
theorem j4 : (Rows.execNoneRow.recurses == Tryz.checked.prog.recurses 9) = true := by kernel_rfl
theorem j5 : (Rows.execNoneRow.named == Tryz.checked.prog.varsNamed 9) = true := by kernel_rfl
theorem j6 : (Rows.execNoneRow.plainKeys == Tryz.checked.prog.plainKeys) = true := by kernel_rfl
theorem j9 : (Rows.execNoneRow.lifted == Tryz.checked.prog.liftsFinal) = true := by kernel_rfl
theorem closed : joinedFacts Tryz.checked.prog 9 Tryz.f9 Rows.execNoneSpec Rows.execNoneRow = true := by
  unfold joinedFacts
  rw [Facts.laidOut, Facts.rowed, j2, j3, j4, j5, j6, Facts.heard, Facts.enters, j9]
  kernel_rfl
theorem inst : Tryz.f9.isInstance Tryz.checked.prog Rows.execNoneRow.origin Rows.execNoneRow.targs := of_decide_eq_true (by kernel_rfl)
theorem holds : Rows.ExecNoneSaid :=
  OpenClaim.holds_of_wide 9 Tryz.f9 rfl rfl rfl rfl rfl rfl rfl ⟨rfl, rfl, rfl, rfl, rfl⟩ rfl rfl rfl rfl rfl (by kernel_rfl) Tryz.func9 closed
    inst (by unfold Func.isWrapper; first | (rw [if_pos (by decide +kernel)]; kernel_rfl) | (rw [if_neg (by decide +kernel)]; exact ⟨rfl, rfl⟩))
    (fun os started H enc _ => lifted os started H enc)
end Go.Proofs.YtippeihoaapmpaaGreat.ExecNoneOf
