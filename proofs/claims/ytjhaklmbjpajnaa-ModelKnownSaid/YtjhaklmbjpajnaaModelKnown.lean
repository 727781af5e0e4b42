/- ModelKnown: the chapter's examples are answered as it says. No condition: the statement is closed. -/
import Derived.Test.YtjhaklmbjpajnaaT
import Derived.Test.YtjhaklmbjpajnaaRows
import Derived.Test.YtjhaklmbjpajnaaX
namespace Go.Proofs.Ytjhaklmbjpajnaa.ModelKnownOf
open Go.Abs
set_option maxRecDepth 1000000
theorem own : ownKnob Try.prog.godebug = none := by kernel_rfl
theorem laidOut : laidOutB Try.prog = true := by kernel_rfl
theorem ran : isTrue (callT Try.prog Try.tbl Try.kx 4000000 (.fn (.func 10) [] []) [] ⟨.e, 0⟩) = true := by kernel_rfl
theorem lifted (os : Os) (started : os.Started) (H : Type) (enc : TypeId × Value → H) :
    ReturnsInHanded {} Try.checked os 10 .any (Rows.modelKnownSpec.pre6 enc Try.prog Try.f10 Rows.modelKnownRow.domain false) (Rows.modelKnownSpec.post enc Try.prog Try.f10 false true false false) := by
  refine returnsInHanded_of_change (C := Try.checked) own started (by kernel_rfl) Try.func10
    (ChangeSpec.witness6 (enc := enc) (C := Try.checked) false ⟨#[], #[], []⟩ 8 (by kernel_rfl) (by kernel_rfl) (by kernel_rfl) (by kernel_rfl)) ?_
  intro W base args ds gs before hval0 hW hcnd _
  have hW' := hW
  obtain ⟨p, q, hA, hV, rfl, hfz, hnd⟩ := hW
  rw [Try.params10] at hA
  obtain ⟨rfl, rfl, rfl⟩ := Go.ChangeShapes.trodAll_none hA
  refine (calls_of_run (P := Try.prog) Try.tblOk Try.kx_ok ran (Abs.R.nothing Try.prog W) .nil (fun id o h => by simp [AH.get, getK] at h) (ent_of Try.func10 (by kernel_rfl) (by kernel_rfl) _)).mono fun e W' ⟨he, hb⟩ => ⟨_, he, ?_⟩
  exact law_post laidOut (by kernel_rfl) (by kernel_rfl) rfl (fun ds h => by
    match ds, h with
    | [], _ => rfl) hW' hb
theorem holds : Rows.ModelKnownSaid :=
  OpenClaim.holds_of_wide 10 Try.f10 rfl rfl rfl rfl rfl rfl rfl ⟨rfl, rfl, rfl, rfl, rfl⟩ rfl rfl rfl rfl rfl (by kernel_rfl) Try.func10 (by kernel_rfl)
    (of_decide_eq_true (by kernel_rfl)) (by unfold Func.isWrapper; first | (rw [if_pos (by decide +kernel)]; kernel_rfl) | (rw [if_neg (by decide +kernel)]; exact ⟨rfl, rfl⟩))
    (fun os started H enc _ => lifted os started H enc)
end Go.Proofs.Ytjhaklmbjpajnaa.ModelKnownOf
