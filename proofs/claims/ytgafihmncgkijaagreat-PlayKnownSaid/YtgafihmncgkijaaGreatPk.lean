/- PlayKnown: the chapter's examples are answered as it says. No condition: the statement is closed. -/
import Derived.Test.YtgafihmncgkijaaGreatH
import Derived.Test.YtgafihmncgkijaaGreatRows
import Derived.Test.YtgafihmncgkijaaGreatJ
namespace Go.Proofs.YtgafihmncgkijaaGreat.PlayKnownOf
open Go.Abs
set_option maxRecDepth 1000000
theorem lifted (os : Os) (started : os.Started) (H : Type) (enc : TypeId × Value → H) :
    ReturnsInHanded {} Tryz.checked os 3 .any (Rows.playKnownSpec.pre6 enc Tryz.prog Tryz.f3 Rows.playKnownRow.domain false) (Rows.playKnownSpec.post enc Tryz.prog Tryz.f3 false true false false) := by
  refine returnsInHanded_of_change (C := Tryz.checked) own started (by kernel_rfl) Tryz.func3
    (ChangeSpec.witness6 (enc := enc) (C := Tryz.checked) false ⟨#[], #[], []⟩ 8 (by kernel_rfl) (by kernel_rfl) (by kernel_rfl) (by kernel_rfl)) ?_
  intro W base args ds gs before hval0 hW hcnd _
  have hW' := hW
  obtain ⟨p, q, hA, hV, rfl, hfz, hnd⟩ := hW
  rw [Tryz.params3] at hA
  obtain ⟨rfl, rfl, rfl⟩ := Go.ChangeShapes.trodAll_none hA
  obtain ⟨n, hrun⟩ := wpC_true playKnown_ok
  refine (calls_of_run (P := Tryz.prog) Tryz.tblOk known hrun (Abs.R.nothing Tryz.prog W) .nil (fun id o h => by simp [AH.get, getK] at h) (ent_of Tryz.func3 (by kernel_rfl) (by kernel_rfl) _)).mono fun e W' ⟨he, hb⟩ => ⟨_, he, ?_⟩
  exact law_post Facts.laidOut (by kernel_rfl) (by kernel_rfl) rfl (fun ds h => by
    match ds, h with
    | [], _ => rfl) hW' hb
theorem j2 : (Rows.playKnownRow.inPlace == Tryz.checked.prog.inPlace 3) = true := by kernel_rfl
theorem j3 : (Rows.playKnownRow.unfollowed == Tryz.checked.prog.unfollowed 3) = true := by kernel_rfl
theorem j4 : (Rows.playKnownRow.recurses == Tryz.checked.prog.recurses 3) = true := by kernel_rfl
theorem j5 : (Rows.playKnownRow.named == Tryz.checked.prog.varsNamed 3) = true := by kernel_rfl
theorem j6 : (Rows.playKnownRow.plainKeys == Tryz.checked.prog.plainKeys) = true := by kernel_rfl
theorem j9 : (Rows.playKnownRow.lifted == Tryz.checked.prog.liftsFinal) = true := by kernel_rfl
theorem closed : joinedFacts Tryz.checked.prog 3 Tryz.f3 Rows.playKnownSpec Rows.playKnownRow = true := by
  unfold joinedFacts
  rw [Facts.laidOut, Facts.rowed, j2, j3, j4, j5, j6, Facts.heard, Facts.enters, j9]
  kernel_rfl
theorem inst : Tryz.f3.isInstance Tryz.checked.prog Rows.playKnownRow.origin Rows.playKnownRow.targs := of_decide_eq_true (by kernel_rfl)
theorem holds : Rows.PlayKnownSaid :=
  OpenClaim.holds_of_wide 3 Tryz.f3 rfl rfl rfl rfl rfl rfl rfl ⟨rfl, rfl, rfl, rfl, rfl⟩ rfl rfl rfl rfl rfl (by kernel_rfl) Tryz.func3 closed
    inst (by unfold Func.isWrapper; first | (rw [if_pos (by decide +kernel)]; kernel_rfl) | (rw [if_neg (by decide +kernel)]; exact ⟨rfl, rfl⟩))
    (fun os started H enc _ => lifted os started H enc)
end Go.Proofs.YtgafihmncgkijaaGreat.PlayKnownOf
