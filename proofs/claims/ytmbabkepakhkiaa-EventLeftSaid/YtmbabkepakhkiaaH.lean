/- EventLeft: whatever the history, the IDs and the number, the statement answers true, and what is handed in reads as before. No condition. -/
import Derived.Test.YtmbabkepakhkiaaF
import Derived.Test.YtmbabkepakhkiaaE2
namespace Go.Proofs.Ytmbabkepakhkiaa
open Go.Abs
set_option maxRecDepth 1000000
theorem und3' : Try.prog.underlying 3 = some (.int .i64) := by kernel_rfl
theorem left_lifted (os : Os) (started : os.Started) (H : Type) (enc : TypeId × Value → H) :
    ReturnsInHanded {} Try.checked os 8 .any (Rows.eventLeftSpec.pre6 enc Try.prog Try.f8 Rows.eventLeftRow.domain false) (Rows.eventLeftSpec.post enc Try.prog Try.f8 false true false false) := by
  refine returnsInHanded_of_change (C := Try.checked) own started (by kernel_rfl) Try.func8
    (ChangeSpec.witness6 (enc := enc) (C := Try.checked) false ⟨#[], #[.slice none 0 0, .slice none 0 0, .int .i64 0], []⟩ 8 (by kernel_rfl) (by kernel_rfl) (by kernel_rfl) (by kernel_rfl)) ?_
  intro W base args ds gs before hval0 hW hcnd _
  have hval : ∀ (j : Nat) t v, Try.f8.params[j]? = some t → args[j]? = some v → Value.okWide Try.prog W .any base t v := hval0
  have hW' := hW
  obtain ⟨p, q, hA0, hV, rfl, hfz, hnd⟩ := hW
  have hA : DataW.TrodAll enc Try.prog W 0 (fun _ => true) true Try.f8.params.toList args.toList ds p := hA0
  rw [Try.params8] at hA hval
  obtain ⟨v0, v1, v2, d0, d1, d2, p0, p1, p2, rfl, rfl, rfl, h0, h1, h2⟩ := Go.ChangeShapes.trodAll_three hA
  obtain ⟨x, rfl, rfl, rfl, _⟩ := Go.ChangeShapes.open_int und3' (hval 2 3 v2 rfl rfl) h2
  obtain ⟨a1, S1, ρ1, L1, hO1, _, hsl1, _, hK1⟩ := ((Open.nil Try.prog W).one (Abs.V.sc (v := .int .i64 x) rfl)).slice (open_flat und40 flatI sizeI (hval 1 40 v1 rfl rfl) h1)
  obtain ⟨a, S', ρ', L, hO, hg, hsl, _, hK⟩ := hO1.slice (open_flat und30 flatE sizeE (hval 0 30 v0 rfl rfl) h0)
  obtain ⟨h, rfl⟩ := evts_of (fun vs hvs => (hK vs hvs).1)
  obtain ⟨l, hl⟩ := ints_of (fun vs hvs => (hK1 vs hvs).1)
  rw [← evs_scs] at hsl
  rw [hl] at hsl1
  obtain ⟨n, hrun⟩ := wpC_true (eventLeft_ok hsl (hsl1.grow hg))
  refine (calls_of_run (P := Try.prog) Try.tblOk known hrun hO.r hO.v hO.ro (ent_of Try.func8 (by kernel_rfl) (by kernel_rfl) _)).mono fun e W' ⟨he, hb⟩ => ⟨_, he, ?_⟩
  exact law_post laidOut (by kernel_rfl) (by kernel_rfl) rfl (fun ds h => by
    match ds, h with
    | [_, _, _], _ => rfl) hW' hb
theorem event_left_holds : Rows.EventLeftSaid :=
  OpenClaim.holds_of_wide 8 Try.f8 rfl rfl rfl rfl rfl rfl rfl ⟨rfl, rfl, rfl, rfl, rfl⟩ rfl rfl rfl rfl rfl (by kernel_rfl) Try.func8 (by kernel_rfl)
    (of_decide_eq_true (by kernel_rfl)) (by unfold Func.isWrapper; first | (rw [if_pos (by decide +kernel)]; kernel_rfl) | (rw [if_neg (by decide +kernel)]; exact ⟨rfl, rfl⟩))
    (fun os started H enc _ => left_lifted os started H enc)
end Go.Proofs.Ytmbabkepakhkiaa
