/- WheelPlays: whatever the input, the statement answers true, and what is handed in reads as before. No condition. -/
import Derived.Test.YtapphfcflichmaaG
namespace Go.Proofs.Ytapphfcflichmaa.WheelPlaysOf
open Go.Abs W
set_option maxRecDepth 1000000
theorem lifted (os : Os) (started : os.Started) (H : Type) (enc : TypeId × Value → H) :
    ReturnsInHanded {} Try.checked os 3 .any (Rows.wheelPlaysSpec.pre6 enc Try.prog Try.f3 Rows.wheelPlaysRow.domain false) (Rows.wheelPlaysSpec.post enc Try.prog Try.f3 false true false false) := by
  refine returnsInHanded_of_change (C := Try.checked) own started (by kernel_rfl) Try.func3
    (ChangeSpec.witness6 (enc := enc) (C := Try.checked) false ⟨#[], #[.int .i64 0, .slice none 0 0, .slice none 0 0, .int .i64 0, .int .i64 0], []⟩ 8 (by kernel_rfl) (by kernel_rfl) (by kernel_rfl) (by kernel_rfl)) ?_
  intro W base args ds gs before hval0 hW hcnd _
  have hval : ∀ (j : Nat) t v, Try.f3.params[j]? = some t → args[j]? = some v → Value.okWide Try.prog W .any base t v := hval0
  have hW' := hW
  obtain ⟨p, q, hA0, hV, rfl, hfz, hnd⟩ := hW
  have hA : DataW.TrodAll enc Try.prog W 0 (fun _ => true) true Try.f3.params.toList args.toList ds p := hA0
  rw [Try.params3] at hA hval
  obtain ⟨v0, vs0, d0, ds0, p0, q0, hargs, rfl, rfl, h0, hA⟩ := Go.ChangeShapes.trodAll_cons hA
  obtain ⟨v1, vs1, d1, ds1, p1, q1, rfl, rfl, rfl, h1, hA⟩ := Go.ChangeShapes.trodAll_cons hA
  obtain ⟨v2, vs2, d2, ds2, p2, q2, rfl, rfl, rfl, h2, hA⟩ := Go.ChangeShapes.trodAll_cons hA
  obtain ⟨v3, vs3, d3, ds3, p3, q3, rfl, rfl, rfl, h3, hA⟩ := Go.ChangeShapes.trodAll_cons hA
  obtain ⟨v4, vs4, d4, ds4, p4, q4, rfl, rfl, rfl, h4, hA⟩ := Go.ChangeShapes.trodAll_cons hA
  obtain ⟨rfl, rfl, rfl⟩ := Go.ChangeShapes.trodAll_nil hA
  obtain rfl : args = #[v0, v1, v2, v3, v4] := Array.toList_inj.1 hargs
  have O5 := Open.nil Try.prog W
  obtain ⟨x4, rfl, rfl, rfl, _⟩ := Go.ChangeShapes.open_int undInt (hval 4 3 v4 rfl rfl) h4
  have O4 := O5.one (Abs.V.sc (v := .int .i64 x4) rfl)
  obtain ⟨x3, rfl, rfl, rfl, _⟩ := Go.ChangeShapes.open_int undInt (hval 3 3 v3 rfl rfl) h3
  have O3 := O4.one (Abs.V.sc (v := .int .i64 x3) rfl)
  obtain ⟨a2, S2, ρ2, L2, O2, hg2, hsl2, _, hK2⟩ := O3.slice (open_flat undActs flatAct sizeAct (hval 2 23 v2 rfl rfl) h2)
  obtain ⟨l2, hl2⟩ := acs_of (fun vs hvs => (hK2 vs hvs).1)
  rw [hl2] at hsl2
  obtain ⟨a1, S1, ρ1, L1, O1, hg1, hsl1, _, hK1⟩ := O2.slice (open_flat undTasks flatTask sizeTask (hval 1 22 v1 rfl rfl) h1)
  replace hsl2 := hsl2.grow hg1
  obtain ⟨l1, hl1⟩ := tks_of (fun vs hvs => (hK1 vs hvs).1)
  rw [hl1] at hsl1
  obtain ⟨x0, rfl, rfl, rfl, _⟩ := Go.ChangeShapes.open_int undInt (hval 0 3 v0 rfl rfl) h0
  have O0 := O1.one (Abs.V.sc (v := .int .i64 x0) rfl)
  obtain ⟨n, hrun⟩ := wpC_true (wheelPlays_ok (now := x0) (pl := x3) (lv := x4) hsl1 hsl2)
  refine (calls_of_run (P := Try.prog) Try.tblOk known hrun O0.r O0.v O0.ro (ent_of Try.func3 (by kernel_rfl) (by kernel_rfl) _)).mono fun e W' ⟨he, hb⟩ => ⟨_, he, ?_⟩
  exact law_post laidOut (by kernel_rfl) (by kernel_rfl) rfl (fun ds h => by
    match ds, h with
    | [_, _, _, _, _], _ => rfl) hW' hb
theorem holds : Rows.WheelPlaysSaid :=
  OpenClaim.holds_of_wide 3 Try.f3 rfl rfl rfl rfl rfl rfl rfl ⟨rfl, rfl, rfl, rfl, rfl⟩ rfl rfl rfl rfl rfl (by kernel_rfl) Try.func3 (by kernel_rfl)
    (of_decide_eq_true (by kernel_rfl)) (by unfold Func.isWrapper; first | (rw [if_pos (by decide +kernel)]; kernel_rfl) | (rw [if_neg (by decide +kernel)]; exact ⟨rfl, rfl⟩))
    (fun os started H enc _ => lifted os started H enc)
end Go.Proofs.Ytapphfcflichmaa.WheelPlaysOf
