/- WheelNone: whatever the input, the statement answers true, and what is handed in reads as before. No condition. -/
import Derived.Test.YtjhaklmbjpajnaaF
namespace Go.Proofs.Ytjhaklmbjpajnaa.WheelNoneOf
open Go.Abs
set_option maxRecDepth 1000000
theorem ok {a : AV} {S : AH} (h : (a = Ns ∧ S = ⟨.e, 0⟩) ∨ ∃ c len cap, a = .sl (⟨.e, 0⟩ : AH).next 0 len cap ∧ S = (⟨.e, 0⟩ : AH).new (.ro c)) : wpC EM (.fn (.func 4) [] []) [a, .agg (toksL 0 3)] S fun v _ => v = .sc (.bool true) := by
  rcases h with ⟨rfl, rfl⟩ | ⟨c, len, cap, rfl, rfl⟩
  · exact wpC_fn (b := Try.a4) rfl rfl (wp_runTrue 4000000 (by kernel_rfl))
  · refine wpC_fn (b := Try.a4) rfl rfl ?_
    unfold Try.a4
    refine wp_op rfl ?_
    refine wp_op rfl ?_
    refine wp_gtr (a := (len : Int)) (fun h => ?_) (fun h => ?_)
    · exact wp_runTrue 4000000 (by kernel_rfl)
    · exact wp_runTrue 4000000 (by kernel_rfl)
theorem lifted (os : Os) (started : os.Started) (H : Type) (enc : TypeId × Value → H) :
    ReturnsInHanded {} Try.checked os 4 .any (Rows.wheelNoneSpec.pre6 enc Try.prog Try.f4 Rows.wheelNoneRow.domain false) (Rows.wheelNoneSpec.post enc Try.prog Try.f4 false true false false) := by
  refine returnsInHanded_of_change (C := Try.checked) own started (by kernel_rfl) Try.func4
    (ChangeSpec.witness6 (enc := enc) (C := Try.checked) false ⟨#[], #[.slice none 0 0, .agg #[.int .i64 0, .int .i64 0, .int .i64 0]], []⟩ 8 (by kernel_rfl) (by kernel_rfl) (by kernel_rfl) (by kernel_rfl)) ?_
  intro W base args ds gs before hval0 hW hcnd _
  have hval : ∀ (j : Nat) t v, Try.f4.params[j]? = some t → args[j]? = some v → Value.okWide Try.prog W .any base t v := hval0
  have hW' := hW
  obtain ⟨p, q, hA0, hV, rfl, hfz, hnd⟩ := hW
  have hA : DataW.TrodAll enc Try.prog W 0 (fun _ => true) true Try.f4.params.toList args.toList ds p := hA0
  rw [Try.params4] at hA hval
  obtain ⟨v0, vs0, d0, ds0, p0, q0, hargs, rfl, rfl, h0, hA⟩ := Go.ChangeShapes.trodAll_cons hA
  obtain ⟨v1, vs1, d1, ds1, p1, q1, rfl, rfl, rfl, h1, hA⟩ := Go.ChangeShapes.trodAll_cons hA
  obtain ⟨rfl, rfl, rfl⟩ := Go.ChangeShapes.trodAll_nil hA
  obtain rfl : args = #[v0, v1] := Array.toList_inj.1 hargs
  obtain ⟨fs1, hfs1⟩ := isStructB_some (P := Try.prog) str38
  obtain ⟨ws1, rfl, hK1, hI1⟩ := open_aggF hfs1 flat38 size38 (hval 1 38 v1 rfl rfl) h1
  letI : Tok := tokOf ws1
  have O2 := Open.nil Try.prog W
  have O1 := O2.one (V.aggT (b := 0) hK1 (fun i v hi => by rw [Nat.zero_add]; exact tokOf_val (cellsK_one hK1) hi))
  obtain ⟨a0, S0, ρ0, L0, O0, hg0, hsl0, _, hK0, hC0⟩ := O1.sliceC (open_flat und22 flat77 size77 (hval 0 22 v0 rfl rfl) h0)
  obtain ⟨n, hrun⟩ := wpC_true (ok hC0)
  refine (calls_of_run (P := Try.prog) Try.tblOk known hrun O0.r O0.v O0.ro (ent_of Try.func4 (by kernel_rfl) (by kernel_rfl) _)).mono fun e W' ⟨he, hb⟩ => ⟨_, he, ?_⟩
  exact law_post laidOut (by kernel_rfl) (by kernel_rfl) rfl (fun ds h => by
    match ds, h with
    | [_, _], _ => rfl) hW' hb
theorem holds : Rows.WheelNoneSaid :=
  OpenClaim.holds_of_wide 4 Try.f4 rfl rfl rfl rfl rfl rfl rfl ⟨rfl, rfl, rfl, rfl, rfl⟩ rfl rfl rfl rfl rfl (by kernel_rfl) Try.func4 (by kernel_rfl)
    (of_decide_eq_true (by kernel_rfl)) (by unfold Func.isWrapper; first | (rw [if_pos (by decide +kernel)]; kernel_rfl) | (rw [if_neg (by decide +kernel)]; exact ⟨rfl, rfl⟩))
    (fun os started H enc _ => lifted os started H enc)
end Go.Proofs.Ytjhaklmbjpajnaa.WheelNoneOf
