/- EventOrder: whatever the history, the statement answers true, and what is handed in reads as before. No condition. -/
import Derived.Test.YtmbabkepakhkiaaF
import Derived.Test.YtmbabkepakhkiaaE3
namespace Go.Proofs.Ytmbabkepakhkiaa
open Go.Abs
set_option maxRecDepth 1000000
theorem order_lifted (os : Os) (started : os.Started) (H : Type) (enc : TypeId × Value → H) :
    ReturnsInHanded {} Try.checked os 7 .any (Rows.eventOrderSpec.pre6 enc Try.prog Try.f7 Rows.eventOrderRow.domain false) (Rows.eventOrderSpec.post enc Try.prog Try.f7 false true false false) := by
  refine returnsInHanded_of_change (C := Try.checked) own started (by kernel_rfl) Try.func7
    (ChangeSpec.witness6 (enc := enc) (C := Try.checked) false ⟨#[], #[.slice none 0 0], []⟩ 8 (by kernel_rfl) (by kernel_rfl) (by kernel_rfl) (by kernel_rfl)) ?_
  intro W base args ds gs before hval0 hW hcnd _
  have hval : ∀ (j : Nat) t v, Try.f7.params[j]? = some t → args[j]? = some v → Value.okWide Try.prog W .any base t v := hval0
  have hW' := hW
  obtain ⟨p, q, hA0, hV, rfl, hfz, hnd⟩ := hW
  have hA : DataW.TrodAll enc Try.prog W 0 (fun _ => true) true Try.f7.params.toList args.toList ds p := hA0
  rw [Try.params7] at hA hval
  obtain ⟨v0, d0, rfl, rfl, h0⟩ := Go.ChangeShapes.trodAll_one hA
  obtain ⟨a, S', ρ', L, hO, _, hsl, hlen, hK⟩ := (Open.nil Try.prog W).slice (open_flat und30 flatE sizeE (hval 0 30 v0 rfl rfl) h0)
  obtain ⟨h, rfl⟩ := evts_of (fun vs hvs => (hK vs hvs).1)
  rw [← evs_scs] at hsl
  obtain ⟨n, hrun⟩ := wpC_true (eventOrder_ok hsl)
  refine (calls_of_run (P := Try.prog) Try.tblOk known hrun hO.r hO.v hO.ro (ent_of Try.func7 (by kernel_rfl) (by kernel_rfl) _)).mono fun e W' ⟨he, hb⟩ => ⟨_, he, ?_⟩
  exact law_post laidOut (by kernel_rfl) (by kernel_rfl) rfl (fun ds h => by
    match ds, h with
    | [_], _ => rfl) hW' hb
theorem event_order_holds : Rows.EventOrderSaid :=
  OpenClaim.holds_of_wide 7 Try.f7 rfl rfl rfl rfl rfl rfl rfl ⟨rfl, rfl, rfl, rfl, rfl⟩ rfl rfl rfl rfl rfl (by kernel_rfl) Try.func7 (by kernel_rfl)
    (of_decide_eq_true (by kernel_rfl)) (by unfold Func.isWrapper; first | (rw [if_pos (by decide +kernel)]; kernel_rfl) | (rw [if_neg (by decide +kernel)]; exact ⟨rfl, rfl⟩))
    (fun os started H enc _ => order_lifted os started H enc)
end Go.Proofs.Ytmbabkepakhkiaa
