/- ModelKept: whatever the input, the statement answers true, and what is handed in reads as before. No condition. -/
import Derived.Test.YtegdfgoanklohaaG
namespace Go.Proofs.Ytegdfgoanklohaa.ModelKeptOf
open Go.Abs
set_option maxRecDepth 1000000
theorem lifted (os : Os) (started : os.Started) (H : Type) (enc : TypeId × Value → H) :
    ReturnsInHanded {} Try.checked os 5 .any (Rows.modelKeptSpec.pre6 enc Try.prog Try.f5 Rows.modelKeptRow.domain false) (Rows.modelKeptSpec.post enc Try.prog Try.f5 false true false false) := by
  refine returnsInHanded_of_change (C := Try.checked) own started (by kernel_rfl) Try.func5
    (ChangeSpec.witness6 (enc := enc) (C := Try.checked) false ⟨#[], #[.slice none 0 0, .slice none 0 0], []⟩ 8 (by kernel_rfl) (by kernel_rfl) (by kernel_rfl) (by kernel_rfl)) ?_
  intro W base args ds gs before hval0 hW hcnd _
  have hval : ∀ (j : Nat) t v, Try.f5.params[j]? = some t → args[j]? = some v → Value.okWide Try.prog W .any base t v := hval0
  have hW' := hW
  obtain ⟨p, q, hA0, hV, rfl, hfz, hnd⟩ := hW
  have hA : DataW.TrodAll enc Try.prog W 0 (fun _ => true) true Try.f5.params.toList args.toList ds p := hA0
  rw [Try.params5] at hA hval
  obtain ⟨v0, vs0, d0, ds0, p0, q0, hargs, rfl, rfl, h0, hA⟩ := Go.ChangeShapes.trodAll_cons hA
  obtain ⟨v1, vs1, d1, ds1, p1, q1, rfl, rfl, rfl, h1, hA⟩ := Go.ChangeShapes.trodAll_cons hA
  obtain ⟨rfl, rfl, rfl⟩ := Go.ChangeShapes.trodAll_nil hA
  obtain rfl : args = #[v0, v1] := Array.toList_inj.1 hargs
  have O2 := Open.nil Try.prog W
  obtain ⟨a1, S1, ρ1, L1, O1, hg1, hsl1, _, hK1⟩ := O2.slice (open_flat undInts flatInt sizeInt (hval 1 29 v1 rfl rfl) h1)
  obtain ⟨l1, hl1⟩ := ints_of (fun vs hvs => (hK1 vs hvs).1)
  rw [hl1] at hsl1
  obtain ⟨a0, S0, ρ0, L0, O0, hg0, hsl0, _, hK0⟩ := O1.slice (open_flat undInts flatInt sizeInt (hval 0 29 v0 rfl rfl) h0)
  replace hsl1 := hsl1.grow hg0
  obtain ⟨l0, hl0⟩ := ints_of (fun vs hvs => (hK0 vs hvs).1)
  rw [hl0] at hsl0
  obtain ⟨n, hrun⟩ := wpC_true (modelKept_ok hsl0 hsl1)
  refine (calls_of_run (P := Try.prog) Try.tblOk known hrun O0.r O0.v O0.ro (ent_of Try.func5 (by kernel_rfl) (by kernel_rfl) _)).mono fun e W' ⟨he, hb⟩ => ⟨_, he, ?_⟩
  exact law_post laidOut (by kernel_rfl) (by kernel_rfl) rfl (fun ds h => by
    match ds, h with
    | [_, _], _ => rfl) hW' hb
theorem holds : Rows.ModelKeptSaid :=
  OpenClaim.holds_of_wide 5 Try.f5 rfl rfl rfl rfl rfl rfl rfl ⟨rfl, rfl, rfl, rfl, rfl⟩ rfl rfl rfl rfl rfl (by kernel_rfl) Try.func5 (by kernel_rfl)
    (of_decide_eq_true (by kernel_rfl)) (by unfold Func.isWrapper; first | (rw [if_pos (by decide +kernel)]; kernel_rfl) | (rw [if_neg (by decide +kernel)]; exact ⟨rfl, rfl⟩))
    (fun os started H enc _ => lifted os started H enc)
end Go.Proofs.Ytegdfgoanklohaa.ModelKeptOf
