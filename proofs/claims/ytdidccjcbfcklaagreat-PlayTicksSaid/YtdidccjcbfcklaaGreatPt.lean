/- PlayTicks: whatever the input, the statement answers true, and what is handed in reads as before. No condition. -/
import Derived.Test.YtdidccjcbfcklaaGreatH
namespace Go.Proofs.YtdidccjcbfcklaaGreat.PlayTicksOf
open Go.Abs
set_option maxRecDepth 1000000
theorem lifted (os : Os) (started : os.Started) (H : Type) (enc : TypeId × Value → H) :
    ReturnsInHanded {} Tryz.checked os 3 .any (Rows.playTicksSpec.pre6 enc Tryz.prog Tryz.f3 Rows.playTicksRow.domain false) (Rows.playTicksSpec.post enc Tryz.prog Tryz.f3 false true false false) := by
  refine returnsInHanded_of_change (C := Tryz.checked) own started (by kernel_rfl) Tryz.func3
    (ChangeSpec.witness6 (enc := enc) (C := Tryz.checked) false ⟨#[], #[.slice none 0 0, .slice none 0 0], []⟩ 8 (by kernel_rfl) (by kernel_rfl) (by kernel_rfl) (by kernel_rfl)) ?_
  intro W base args ds gs before hval0 hW hcnd _
  have hval : ∀ (j : Nat) t v, Tryz.f3.params[j]? = some t → args[j]? = some v → Value.okWide Tryz.prog W .any base t v := hval0
  have hW' := hW
  obtain ⟨p, q, hA0, hV, rfl, hfz, hnd⟩ := hW
  have hA : DataW.TrodAll enc Tryz.prog W 0 (fun _ => true) true Tryz.f3.params.toList args.toList ds p := hA0
  rw [Tryz.params3] at hA hval
  obtain ⟨v0, vs0, d0, ds0, p0, q0, hargs, rfl, rfl, h0, hA⟩ := Go.ChangeShapes.trodAll_cons hA
  obtain ⟨v1, vs1, d1, ds1, p1, q1, rfl, rfl, rfl, h1, hA⟩ := Go.ChangeShapes.trodAll_cons hA
  obtain ⟨rfl, rfl, rfl⟩ := Go.ChangeShapes.trodAll_nil hA
  obtain rfl : args = #[v0, v1] := Array.toList_inj.1 hargs
  have O2 := Open.nil Tryz.prog W
  obtain ⟨a1, S1, ρ1, L1, O1, hg1, hsl1, _, hK1⟩ := O2.slice (open_flat undInts flatInt sizeInt (hval 1 22 v1 rfl rfl) h1)
  obtain ⟨l1, hl1⟩ := ints_of (fun vs hvs => (hK1 vs hvs).1)
  rw [hl1] at hsl1
  obtain ⟨a0, S0, ρ0, L0, O0, hg0, hsl0, _, hK0⟩ := O1.slice (open_flat undInts flatInt sizeInt (hval 0 22 v0 rfl rfl) h0)
  replace hsl1 := hsl1.grow hg0
  obtain ⟨l0, hl0⟩ := ints_of (fun vs hvs => (hK0 vs hvs).1)
  rw [hl0] at hsl0
  obtain ⟨n, hrun⟩ := wpC_true (@Abs.X.playTicks_ok ⟨true⟩ rfl _ _ _ _ _ hsl0 hsl1)
  refine (calls_of_run (P := Tryz.prog) Tryz.tblOk known hrun O0.r O0.v O0.ro (ent_of Tryz.func3 (by kernel_rfl) (by kernel_rfl) _)).mono fun e W' ⟨he, hb⟩ => ⟨_, he, ?_⟩
  exact law_post Facts.laidOut (by kernel_rfl) (by kernel_rfl) rfl (fun ds h => by
    match ds, h with
    | [_, _], _ => rfl) hW' hb
theorem j2 : (Rows.playTicksRow.inPlace == Tryz.checked.prog.inPlace 3) = true := by kernel_rfl
theorem j3 : (Rows.playTicksRow.unfollowed == Tryz.checked.prog.unfollowed 3) = true := by kernel_rfl
theorem j4 : (Rows.playTicksRow.recurses == Tryz.checked.prog.recurses 3) = true := by kernel_rfl
theorem j5 : (Rows.playTicksRow.named == Tryz.checked.prog.varsNamed 3) = true := by kernel_rfl
theorem j6 : (Rows.playTicksRow.plainKeys == Tryz.checked.prog.plainKeys) = true := by kernel_rfl
theorem j9 : (Rows.playTicksRow.lifted == Tryz.checked.prog.liftsFinal) = true := by kernel_rfl
theorem closed : joinedFacts Tryz.checked.prog 3 Tryz.f3 Rows.playTicksSpec Rows.playTicksRow = true := by
  unfold joinedFacts
  rw [Facts.laidOut, Facts.rowed, j2, j3, j4, j5, j6, Facts.heard, Facts.enters, j9]
  kernel_rfl
theorem inst : Tryz.f3.isInstance Tryz.checked.prog Rows.playTicksRow.origin Rows.playTicksRow.targs := of_decide_eq_true (by kernel_rfl)
theorem holds : Rows.PlayTicksSaid :=
  OpenClaim.holds_of_wide 3 Tryz.f3 rfl rfl rfl rfl rfl rfl rfl ⟨rfl, rfl, rfl, rfl, rfl⟩ rfl rfl rfl rfl rfl (by kernel_rfl) Tryz.func3 closed
    inst (by unfold Func.isWrapper; first | (rw [if_pos (by decide +kernel)]; kernel_rfl) | (rw [if_neg (by decide +kernel)]; exact ⟨rfl, rfl⟩))
    (fun os started H enc _ => lifted os started H enc)
end Go.Proofs.YtdidccjcbfcklaaGreat.PlayTicksOf
