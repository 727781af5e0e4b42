/- EventLong: whatever the number and the event, the statement answers true, and what is handed in reads as before. No condition. -/
import Derived.Test.YtmbabkepakhkiaaF
import Derived.Test.YtmbabkepakhkiaaE2
namespace Go.Proofs.Ytmbabkepakhkiaa
open Go.Abs
set_option maxRecDepth 1000000
theorem und3'' : Try.prog.underlying 3 = some (.int .i64) := by kernel_rfl
theorem long_lifted (os : Os) (started : os.Started) (H : Type) (enc : TypeId × Value → H) :
    ReturnsInHanded {} Try.checked os 3 .any (Rows.eventLongSpec.pre6 enc Try.prog Try.f3 Rows.eventLongRow.domain false) (Rows.eventLongSpec.post enc Try.prog Try.f3 false true false false) := by
  refine returnsInHanded_of_change (C := Try.checked) own started (by kernel_rfl) Try.func3
    (ChangeSpec.witness6 (enc := enc) (C := Try.checked) false ⟨#[], #[.int .i64 0, .agg #[.int .i64 0, .bool false, .int .i64 0, .int .i64 0, .int .i64 0, .int .u64 0, .int .i64 0, .int .i64 0, .int .u64 0]], []⟩ 8 (by kernel_rfl) (by kernel_rfl) (by kernel_rfl) (by kernel_rfl)) ?_
  intro W base args ds gs before hval0 hW hcnd _
  have hval : ∀ (j : Nat) t v, Try.f3.params[j]? = some t → args[j]? = some v → Value.okWide Try.prog W .any base t v := hval0
  have hW' := hW
  obtain ⟨p, q, hA0, hV, rfl, hfz, hnd⟩ := hW
  have hA : DataW.TrodAll enc Try.prog W 0 (fun _ => true) true Try.f3.params.toList args.toList ds p := hA0
  rw [Try.params3] at hA hval
  obtain ⟨v0, v1, d0, d1, p0, p1, rfl, rfl, rfl, h0, h1⟩ := Go.ChangeShapes.trodAll_two hA
  obtain ⟨x, rfl, rfl, rfl, _⟩ := Go.ChangeShapes.open_int und3'' (hval 0 3 v0 rfl rfl) h0
  obtain ⟨fs, hfs⟩ := isStructB_some (P := Try.prog) strE
  obtain ⟨vs, rfl, hK, _⟩ := open_aggF hfs flatE sizeE (hval 1 29 v1 rfl rfl) h1
  have hO := ((Open.nil Try.prog W).one (V.aggS hK)).one (Abs.V.sc (v := .int .i64 x) rfl)
  obtain ⟨y, rfl⟩ := evt_of hK
  obtain ⟨n, hrun⟩ := wpC_true (eventLong_ok (S := ⟨.e, 0⟩) (n := x) (x := y))
  refine (calls_of_run (P := Try.prog) Try.tblOk known hrun hO.r hO.v hO.ro (ent_of Try.func3 (by kernel_rfl) (by kernel_rfl) _)).mono fun e W' ⟨he, hb⟩ => ⟨_, he, ?_⟩
  exact law_post laidOut (by kernel_rfl) (by kernel_rfl) rfl (fun ds h => by
    match ds, h with
    | [_, _], _ => rfl) hW' hb
theorem event_long_holds : Rows.EventLongSaid :=
  OpenClaim.holds_of_wide 3 Try.f3 rfl rfl rfl rfl rfl rfl rfl ⟨rfl, rfl, rfl, rfl, rfl⟩ rfl rfl rfl rfl rfl (by kernel_rfl) Try.func3 (by kernel_rfl)
    (of_decide_eq_true (by kernel_rfl)) (by unfold Func.isWrapper; first | (rw [if_pos (by decide +kernel)]; kernel_rfl) | (rw [if_neg (by decide +kernel)]; exact ⟨rfl, rfl⟩))
    (fun os started H enc _ => long_lifted os started H enc)
end Go.Proofs.Ytmbabkepakhkiaa
