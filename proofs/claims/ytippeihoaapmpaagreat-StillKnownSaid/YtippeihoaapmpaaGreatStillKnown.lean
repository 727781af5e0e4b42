/- StillKnown: the chapter's examples are answered as it says. No condition: the statement is closed. -/
import Derived.Test.YtippeihoaapmpaaGreatT
import Derived.Test.YtippeihoaapmpaaGreatRows
import Derived.Test.YtippeihoaapmpaaGreatJ
namespace Go.Proofs.YtippeihoaapmpaaGreat.StillKnownOf
open Go.Abs
set_option maxRecDepth 1000000
theorem own : ownKnob Tryz.prog.godebug = none := by kernel_rfl
theorem ran : isTrue (callT Tryz.prog Tryz.tbl noKn 4000000 (.fn (.func 13) [] []) [] ⟨.e, 0⟩) = true := by kernel_rfl
theorem lifted (os : Os) (started : os.Started) (H : Type) (enc : TypeId × Value → H) :
    ReturnsInHanded {} Tryz.checked os 13 .any (Rows.stillKnownSpec.pre6 enc Tryz.prog Tryz.f13 Rows.stillKnownRow.domain false) (Rows.stillKnownSpec.post enc Tryz.prog Tryz.f13 false true false false) := by
  refine returnsInHanded_of_change (C := Tryz.checked) own started (by kernel_rfl) Tryz.func13
    (ChangeSpec.witness6 (enc := enc) (C := Tryz.checked) false ⟨#[], #[], []⟩ 8 (by kernel_rfl) (by kernel_rfl) (by kernel_rfl) (by kernel_rfl)) ?_
  intro W base args ds gs before hval0 hW hcnd _
  have hW' := hW
  obtain ⟨p, q, hA, hV, rfl, hfz, hnd⟩ := hW
  rw [Tryz.params13] at hA
  obtain ⟨rfl, rfl, rfl⟩ := Go.ChangeShapes.trodAll_none hA
  refine (calls_of_run (P := Tryz.prog) Tryz.tblOk noKn_ok ran (Abs.R.nothing Tryz.prog W) .nil (fun id o h => by simp [AH.get, getK] at h) (ent_of Tryz.func13 (by kernel_rfl) (by kernel_rfl) _)).mono fun e W' ⟨he, hb⟩ => ⟨_, he, ?_⟩
  exact law_post Facts.laidOut (by kernel_rfl) (by kernel_rfl) rfl (fun ds h => by
    match ds, h with
    | [], _ => rfl) hW' hb
theorem j2 : (Rows.stillKnownRow.inPlace == Tryz.checked.prog.inPlace 13) = true := by kernel_rfl
theorem j3 : (Rows.stillKnownRow.unfollowed == Tryz.checked.prog.unfollowed 13) = true := by kernel_rfl
theorem j4 : (Rows.stillKnownRow.recurses == Tryz.checked.prog.recurses 13) = true := by kernel_rfl
theorem j5 : (Rows.stillKnownRow.named == Tryz.checked.prog.varsNamed 13) = true := by kernel_rfl
theorem j6 : (Rows.stillKnownRow.plainKeys == Tryz.checked.prog.plainKeys) = true := by kernel_rfl
theorem j9 : (Rows.stillKnownRow.lifted == Tryz.checked.prog.liftsFinal) = true := by kernel_rfl
theorem closed : joinedFacts Tryz.checked.prog 13 Tryz.f13 Rows.stillKnownSpec Rows.stillKnownRow = true := by
  unfold joinedFacts
  rw [Facts.laidOut, Facts.rowed, j2, j3, j4, j5, j6, Facts.heard, Facts.enters, j9]
  kernel_rfl
theorem inst : Tryz.f13.isInstance Tryz.checked.prog Rows.stillKnownRow.origin Rows.stillKnownRow.targs := of_decide_eq_true (by kernel_rfl)
theorem holds : Rows.StillKnownSaid :=
  OpenClaim.holds_of_wide 13 Tryz.f13 rfl rfl rfl rfl rfl rfl rfl ⟨rfl, rfl, rfl, rfl, rfl⟩ rfl rfl rfl rfl rfl (by kernel_rfl) Tryz.func13 closed
    inst (by unfold Func.isWrapper; first | (rw [if_pos (by decide +kernel)]; kernel_rfl) | (rw [if_neg (by decide +kernel)]; exact ⟨rfl, rfl⟩))
    (fun os started H enc _ => lifted os started H enc)
end Go.Proofs.YtippeihoaapmpaaGreat.StillKnownOf
