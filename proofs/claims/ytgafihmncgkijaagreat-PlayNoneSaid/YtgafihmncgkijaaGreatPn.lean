/- PlayNone: whatever the input, the statement answers true, and what is handed in reads as before. No condition. -/
import Derived.Test.YtgafihmncgkijaaGreatG
namespace Go.Proofs.YtgafihmncgkijaaGreat.PlayNoneOf
open Go.Abs
set_option maxRecDepth 1000000
theorem lifted (os : Os) (started : os.Started) (H : Type) (enc : TypeId × Value → H) :
    ReturnsInHanded {} Tryz.checked os 5 .any (Rows.playNoneSpec.pre6 enc Tryz.prog Tryz.f5 Rows.playNoneRow.domain false) (Rows.playNoneSpec.post enc Tryz.prog Tryz.f5 false true false false) := by
  refine returnsInHanded_of_change (C := Tryz.checked) own started (by kernel_rfl) Tryz.func5
    (ChangeSpec.witness6 (enc := enc) (C := Tryz.checked) false ⟨#[], #[.agg #[.int .i64 0, .int .i64 0, .int .i64 0]], []⟩ 8 (by kernel_rfl) (by kernel_rfl) (by kernel_rfl) (by kernel_rfl)) ?_
  intro W base args ds gs before hval0 hW hcnd _
  have hval : ∀ (j : Nat) t v, Tryz.f5.params[j]? = some t → args[j]? = some v → Value.okWide Tryz.prog W .any base t v := hval0
  have hW' := hW
  obtain ⟨p, q, hA0, hV, rfl, hfz, hnd⟩ := hW
  have hA : DataW.TrodAll enc Tryz.prog W 0 (fun _ => true) true Tryz.f5.params.toList args.toList ds p := hA0
  rw [Tryz.params5] at hA hval
  obtain ⟨v0, vs0, d0, ds0, p0, q0, hargs, rfl, rfl, h0, hA⟩ := Go.ChangeShapes.trodAll_cons hA
  obtain ⟨rfl, rfl, rfl⟩ := Go.ChangeShapes.trodAll_nil hA
  obtain rfl : args = #[v0] := Array.toList_inj.1 hargs
  have O1 := Open.nil Tryz.prog W
  obtain ⟨fs0, hfs0⟩ := isStructB_some (P := Tryz.prog) strM
  obtain ⟨ws0, rfl, hK0, hI0⟩ := open_aggF hfs0 flatM sizeM (hval 0 39 v0 rfl rfl) h0
  have O0 := O1.one (V.aggS hK0)
  obtain ⟨y0, rfl⟩ := mv_of hK0
  obtain ⟨n, hrun⟩ := wpC_true (playNone_ok y0)
  refine (calls_of_run (P := Tryz.prog) Tryz.tblOk known hrun O0.r O0.v O0.ro (ent_of Tryz.func5 (by kernel_rfl) (by kernel_rfl) _)).mono fun e W' ⟨he, hb⟩ => ⟨_, he, ?_⟩
  exact law_post Facts.laidOut (by kernel_rfl) (by kernel_rfl) rfl (fun ds h => by
    match ds, h with
    | [_], _ => rfl) hW' hb
theorem j2 : (Rows.playNoneRow.inPlace == Tryz.checked.prog.inPlace 5) = true := by kernel_rfl
theorem j3 : (Rows.playNoneRow.unfollowed == Tryz.checked.prog.unfollowed 5) = true := by kernel_rfl
theorem j4 : (Rows.playNoneRow.recurses == Tryz.checked.prog.recurses 5) = true := by kernel_rfl
theorem j5 : (Rows.playNoneRow.named == Tryz.checked.prog.varsNamed 5) = true := by kernel_rfl
theorem j6 : (Rows.playNoneRow.plainKeys == Tryz.checked.prog.plainKeys) = true := by kernel_rfl
theorem j9 : (Rows.playNoneRow.lifted == Tryz.checked.prog.liftsFinal) = true := by kernel_rfl
theorem closed : joinedFacts Tryz.checked.prog 5 Tryz.f5 Rows.playNoneSpec Rows.playNoneRow = true := by
  unfold joinedFacts
  rw [Facts.laidOut, Facts.rowed, j2, j3, j4, j5, j6, Facts.heard, Facts.enters, j9]
  kernel_rfl
theorem inst : Tryz.f5.isInstance Tryz.checked.prog Rows.playNoneRow.origin Rows.playNoneRow.targs := of_decide_eq_true (by kernel_rfl)
theorem holds : Rows.PlayNoneSaid :=
  OpenClaim.holds_of_wide 5 Tryz.f5 rfl rfl rfl rfl rfl rfl rfl ⟨rfl, rfl, rfl, rfl, rfl⟩ rfl rfl rfl rfl rfl (by kernel_rfl) Tryz.func5 closed
    inst (by unfold Func.isWrapper; first | (rw [if_pos (by decide +kernel)]; kernel_rfl) | (rw [if_neg (by decide +kernel)]; exact ⟨rfl, rfl⟩))
    (fun os started H enc _ => lifted os started H enc)
end Go.Proofs.YtgafihmncgkijaaGreat.PlayNoneOf
