/- TaskApart: whatever the input, the statement answers true, and what is handed in reads as before. No condition. -/
import Derived.Test.YtjcfblbdljjhjaaF
import Derived.Test.YtjcfblbdljjhjaaE1
namespace Go.Proofs.Ytjcfblbdljjhjaa.TaskApartOf
open Go.Abs
set_option maxRecDepth 1000000
theorem lifted (os : Os) (started : os.Started) (H : Type) (enc : TypeId × Value → H) :
    ReturnsInHanded {} Try.checked os 7 .any (Rows.taskApartSpec.pre6 enc Try.prog Try.f7 Rows.taskApartRow.domain false) (Rows.taskApartSpec.post enc Try.prog Try.f7 false true false false) := by
  refine returnsInHanded_of_change (C := Try.checked) own started (by kernel_rfl) Try.func7
    (ChangeSpec.witness6 (enc := enc) (C := Try.checked) false ⟨#[], #[.agg #[.int .i64 0, .int .i64 0, .int .i64 0, .int .i64 0], .int .i64 0, .int .i64 0], []⟩ 8 (by kernel_rfl) (by kernel_rfl) (by kernel_rfl) (by kernel_rfl)) ?_
  intro W base args ds gs before hval0 hW hcnd _
  have hval : ∀ (j : Nat) t v, Try.f7.params[j]? = some t → args[j]? = some v → Value.okWide Try.prog W .any base t v := hval0
  have hW' := hW
  obtain ⟨p, q, hA0, hV, rfl, hfz, hnd⟩ := hW
  have hA : DataW.TrodAll enc Try.prog W 0 (fun _ => true) true Try.f7.params.toList args.toList ds p := hA0
  rw [Try.params7] at hA hval
  obtain ⟨v0, vs0, d0, ds0, p0, q0, hargs, rfl, rfl, h0, hA⟩ := Go.ChangeShapes.trodAll_cons hA
  obtain ⟨v1, vs1, d1, ds1, p1, q1, rfl, rfl, rfl, h1, hA⟩ := Go.ChangeShapes.trodAll_cons hA
  obtain ⟨v2, vs2, d2, ds2, p2, q2, rfl, rfl, rfl, h2, hA⟩ := Go.ChangeShapes.trodAll_cons hA
  obtain ⟨rfl, rfl, rfl⟩ := Go.ChangeShapes.trodAll_nil hA
  obtain rfl : args = #[v0, v1, v2] := Array.toList_inj.1 hargs
  have O3 := Open.nil Try.prog W
  obtain ⟨x2, rfl, rfl, rfl, _⟩ := Go.ChangeShapes.open_int und3 (hval 2 3 v2 rfl rfl) h2
  have O2 := O3.one (Abs.V.sc (v := .int .i64 x2) rfl)
  obtain ⟨x1, rfl, rfl, rfl, _⟩ := Go.ChangeShapes.open_int und3 (hval 1 3 v1 rfl rfl) h1
  have O1 := O2.one (Abs.V.sc (v := .int .i64 x1) rfl)
  obtain ⟨fs0, hfs0⟩ := isStructB_some (P := Try.prog) strT
  obtain ⟨ws0, rfl, hK0, hI0⟩ := open_aggF hfs0 flatT28 sizeT28 (hval 0 28 v0 rfl rfl) h0
  have O0 := O1.one (V.aggS hK0)
  obtain ⟨y0, rfl⟩ := tk_of hK0
  obtain ⟨n, hrun⟩ := wpC_true (taskApart_ok (S := ⟨.e, 0⟩) (x := y0) (now := x1) (n := x2))
  refine (calls_of_run (P := Try.prog) Try.tblOk known hrun O0.r O0.v O0.ro (ent_of Try.func7 (by kernel_rfl) (by kernel_rfl) _)).mono fun e W' ⟨he, hb⟩ => ⟨_, he, ?_⟩
  exact law_post laidOut (by kernel_rfl) (by kernel_rfl) rfl (fun ds h => by
    match ds, h with
    | [_, _, _], _ => rfl) hW' hb
theorem holds : Rows.TaskApartSaid :=
  OpenClaim.holds_of_wide 7 Try.f7 rfl rfl rfl rfl rfl rfl rfl ⟨rfl, rfl, rfl, rfl, rfl⟩ rfl rfl rfl rfl rfl (by kernel_rfl) Try.func7 (by kernel_rfl)
    (of_decide_eq_true (by kernel_rfl)) (by unfold Func.isWrapper; first | (rw [if_pos (by decide +kernel)]; kernel_rfl) | (rw [if_neg (by decide +kernel)]; exact ⟨rfl, rfl⟩))
    (fun os started H enc _ => lifted os started H enc)
end Go.Proofs.Ytjcfblbdljjhjaa.TaskApartOf
