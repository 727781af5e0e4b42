/- ModelNone: whatever the input, the statement answers true, and what is handed in reads as before. No condition. -/
import Derived.Test.YtjhaklmbjpajnaaF
namespace Go.Proofs.Ytjhaklmbjpajnaa.ModelNoneOf
open Go.Abs
set_option maxRecDepth 1000000
theorem ran : isTrue (callT Try.prog Try.tbl kn 4000000 (.fn (.func 13) [] []) [.agg (toksL 0 3)] ⟨.e, 0⟩) = true := by kernel_rfl
theorem lifted (os : Os) (started : os.Started) (H : Type) (enc : TypeId × Value → H) :
    ReturnsInHanded {} Try.checked os 13 .any (Rows.modelNoneSpec.pre6 enc Try.prog Try.f13 Rows.modelNoneRow.domain false) (Rows.modelNoneSpec.post enc Try.prog Try.f13 false true false false) := by
  refine returnsInHanded_of_change (C := Try.checked) own started (by kernel_rfl) Try.func13
    (ChangeSpec.witness6 (enc := enc) (C := Try.checked) false ⟨#[], #[.agg #[.int .i64 0, .int .i64 0, .int .i64 0]], []⟩ 8 (by kernel_rfl) (by kernel_rfl) (by kernel_rfl) (by kernel_rfl)) ?_
  intro W base args ds gs before hval0 hW hcnd _
  have hval : ∀ (j : Nat) t v, Try.f13.params[j]? = some t → args[j]? = some v → Value.okWide Try.prog W .any base t v := hval0
  have hW' := hW
  obtain ⟨p, q, hA0, hV, rfl, hfz, hnd⟩ := hW
  have hA : DataW.TrodAll enc Try.prog W 0 (fun _ => true) true Try.f13.params.toList args.toList ds p := hA0
  rw [Try.params13] at hA hval
  obtain ⟨v0, vs0, d0, ds0, p0, q0, hargs, rfl, rfl, h0, hA⟩ := Go.ChangeShapes.trodAll_cons hA
  obtain ⟨rfl, rfl, rfl⟩ := Go.ChangeShapes.trodAll_nil hA
  obtain rfl : args = #[v0] := Array.toList_inj.1 hargs
  obtain ⟨fs0, hfs0⟩ := isStructB_some (P := Try.prog) str105
  obtain ⟨ws0, rfl, hK0, hI0⟩ := open_aggF hfs0 flat105 size105 (hval 0 105 v0 rfl rfl) h0
  letI : Tok := tokOf ws0
  have O1 := Open.nil Try.prog W
  have O0 := O1.one (V.aggT (b := 0) hK0 (fun i v hi => by rw [Nat.zero_add]; exact tokOf_val (cellsK_one hK0) hi))
  refine (calls_of_run (P := Try.prog) Try.tblOk known ran O0.r O0.v O0.ro (ent_of Try.func13 (by kernel_rfl) (by kernel_rfl) _)).mono fun e W' ⟨he, hb⟩ => ⟨_, he, ?_⟩
  exact law_post laidOut (by kernel_rfl) (by kernel_rfl) rfl (fun ds h => by
    match ds, h with
    | [_], _ => rfl) hW' hb
theorem holds : Rows.ModelNoneSaid :=
  OpenClaim.holds_of_wide 13 Try.f13 rfl rfl rfl rfl rfl rfl rfl ⟨rfl, rfl, rfl, rfl, rfl⟩ rfl rfl rfl rfl rfl (by kernel_rfl) Try.func13 (by kernel_rfl)
    (of_decide_eq_true (by kernel_rfl)) (by unfold Func.isWrapper; first | (rw [if_pos (by decide +kernel)]; kernel_rfl) | (rw [if_neg (by decide +kernel)]; exact ⟨rfl, rfl⟩))
    (fun os started H enc _ => lifted os started H enc)
end Go.Proofs.Ytjhaklmbjpajnaa.ModelNoneOf
