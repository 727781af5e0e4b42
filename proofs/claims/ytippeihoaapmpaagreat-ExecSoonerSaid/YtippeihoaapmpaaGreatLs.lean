/- ExecSooner: whatever the input, the statement answers true, and what is handed in reads as before. No condition. -/
import Derived.Test.YtippeihoaapmpaaGreatS4
import Derived.Test.YtippeihoaapmpaaGreatQ
namespace Go.Proofs.YtippeihoaapmpaaGreat.ExecSoonerOf
open Go.Abs
set_option maxRecDepth 1000000
theorem lifted (os : Os) (started : os.Started) (H : Type) (enc : TypeId × Value → H) :
    ReturnsInHanded {} Tryz.checked os 12 .any (Rows.execSoonerSpec.pre6 enc Tryz.prog Tryz.f12 Rows.execSoonerRow.domain false) (Rows.execSoonerSpec.post enc Tryz.prog Tryz.f12 false true false false) := by
  refine returnsInHanded_of_change (C := Tryz.checked) own started (by kernel_rfl) Tryz.func12
    (ChangeSpec.witness6 (enc := enc) (C := Tryz.checked) false ⟨#[], #[.int .i64 0, .int .i64 0], []⟩ 8 (by kernel_rfl) (by kernel_rfl) (by kernel_rfl) (by kernel_rfl)) ?_
  intro W base args ds gs before hval0 hW hcnd _
  have hval : ∀ (j : Nat) t v, Tryz.f12.params[j]? = some t → args[j]? = some v → Value.okWide Tryz.prog W .any base t v := hval0
  have hW' := hW
  obtain ⟨p, q, hA0, hV, rfl, hfz, hnd⟩ := hW
  have hA : DataW.TrodAll enc Tryz.prog W 0 (fun _ => true) true Tryz.f12.params.toList args.toList ds p := hA0
  rw [Tryz.params12] at hA hval
  obtain ⟨v0, vs0, d0, ds0, p0, q0, hargs, rfl, rfl, h0, hA⟩ := Go.ChangeShapes.trodAll_cons hA
  obtain ⟨v1, vs1, d1, ds1, p1, q1, rfl, rfl, rfl, h1, hA⟩ := Go.ChangeShapes.trodAll_cons hA
  obtain ⟨rfl, rfl, rfl⟩ := Go.ChangeShapes.trodAll_nil hA
  obtain rfl : args = #[v0, v1] := Array.toList_inj.1 hargs
  have O2 := Open.nil Tryz.prog W
  obtain ⟨x1, rfl, rfl, rfl, _⟩ := Go.ChangeShapes.open_int undInt (hval 1 3 v1 rfl rfl) h1
  have O1 := O2.one (Abs.V.sc (v := .int .i64 x1) rfl)
  obtain ⟨x0, rfl, rfl, rfl, _⟩ := Go.ChangeShapes.open_int undInt (hval 0 3 v0 rfl rfl) h0
  have O0 := O1.one (Abs.V.sc (v := .int .i64 x0) rfl)
  obtain ⟨n, hrun⟩ := soonerRuns x0 x1
  refine (calls_of_run (P := Tryz.prog) Tryz.tblOk known2 hrun O0.r O0.v O0.ro (ent_of Tryz.func12 (by kernel_rfl) (by kernel_rfl) _)).mono fun e W' ⟨he, hb⟩ => ⟨_, he, ?_⟩
  exact law_post Facts.laidOut (by kernel_rfl) (by kernel_rfl) rfl (fun ds h => by
    match ds, h with
    | [_, _], _ => rfl) hW' hb
theorem holds : Rows.ExecSoonerSaid :=
  OpenClaim.holds_of_wide 12 Tryz.f12 rfl rfl rfl rfl rfl rfl rfl ⟨rfl, rfl, rfl, rfl, rfl⟩ rfl rfl rfl rfl rfl (by kernel_rfl) Tryz.func12 closed
    inst (by unfold Func.isWrapper; first | (rw [if_pos (by decide +kernel)]; kernel_rfl) | (rw [if_neg (by decide +kernel)]; exact ⟨rfl, rfl⟩))
    (fun os started H enc _ => lifted os started H enc)
end Go.Proofs.YtippeihoaapmpaaGreat.ExecSoonerOf
