/- WheelKnown: the chapter's examples are answered as it says. No condition: the statement is closed. -/
import Derived.Test.YtjhaklmbjpajnaaG
namespace Go.Proofs.Ytjhaklmbjpajnaa.WheelKnownOf
open Go.Abs W
set_option maxRecDepth 1000000
theorem lifted (os : Os) (started : os.Started) (H : Type) (enc : TypeId × Value → H) :
    ReturnsInHanded {} Try.checked os 5 .any (Rows.wheelKnownSpec.pre6 enc Try.prog Try.f5 Rows.wheelKnownRow.domain false) (Rows.wheelKnownSpec.post enc Try.prog Try.f5 false true false false) := by
  refine returnsInHanded_of_change (C := Try.checked) own started (by kernel_rfl) Try.func5
    (ChangeSpec.witness6 (enc := enc) (C := Try.checked) false ⟨#[], #[], []⟩ 8 (by kernel_rfl) (by kernel_rfl) (by kernel_rfl) (by kernel_rfl)) ?_
  intro W base args ds gs before hval0 hW hcnd _
  have hW' := hW
  obtain ⟨p, q, hA, hV, rfl, hfz, hnd⟩ := hW
  rw [Try.params5] at hA
  obtain ⟨rfl, rfl, rfl⟩ := Go.ChangeShapes.trodAll_none hA
  obtain ⟨n, hrun⟩ := wpC_true (wpC_mono (known_ok (Cx.enter (S := ⟨.e, 0⟩) (ro := []) (by simp))) fun _ _ h => h.1)
  refine (calls_of_run (P := Try.prog) Try.tblOk known hrun (Abs.R.nothing Try.prog W) .nil (fun id o h => by simp [AH.get, getK] at h) (ent_of Try.func5 (by kernel_rfl) (by kernel_rfl) _)).mono fun e W' ⟨he, hb⟩ => ⟨_, he, ?_⟩
  exact law_post laidOut (by kernel_rfl) (by kernel_rfl) rfl (fun ds h => by
    match ds, h with
    | [], _ => rfl) hW' hb
theorem holds : Rows.WheelKnownSaid :=
  OpenClaim.holds_of_wide 5 Try.f5 rfl rfl rfl rfl rfl rfl rfl ⟨rfl, rfl, rfl, rfl, rfl⟩ rfl rfl rfl rfl rfl (by kernel_rfl) Try.func5 (by kernel_rfl)
    (of_decide_eq_true (by kernel_rfl)) (by unfold Func.isWrapper; first | (rw [if_pos (by decide +kernel)]; kernel_rfl) | (rw [if_neg (by decide +kernel)]; exact ⟨rfl, rfl⟩))
    (fun os started H enc _ => lifted os started H enc)
end Go.Proofs.Ytjhaklmbjpajnaa.WheelKnownOf
