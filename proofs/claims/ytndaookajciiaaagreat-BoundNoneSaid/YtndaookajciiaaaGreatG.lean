/- What BoundNone needs: its awake is known, what is handed in is opened. Conditions: stated in each theorem. -/
import Derived.Test.YtndaookajciiaaaGreatBn
import Derived.Test.YtndaookajciiaaaGreatJ
import Derived.Test.YtndaookajciiaaaGreatRows
namespace Go.Proofs.YtndaookajciiaaaGreat
open Go.Abs
set_option maxRecDepth 1000000
set_option linter.unusedSectionVars false
theorem own : ownKnob Tryz.prog.godebug = none := by kernel_rfl
theorem ranA : isTrue (callT Tryz.prog Tryz.tbl noKn 4000000 (.fn (.func 7) [] []) [] ⟨.e, 0⟩) = true := by kernel_rfl
theorem known [Tok] : KnOk Tryz.prog EM.kn := ⟨knV_ok Tryz.tblOk noKn_ok (fun x hx => by
  simp only [List.mem_cons, List.not_mem_nil, or_false] at hx
  subst hx
  obtain ⟨S', h⟩ := isTrue_some ranA
  exact ⟨⟨4000000, S', h⟩, fun w => ent_of Tryz.func7 (by kernel_rfl) (by kernel_rfl) _ w⟩), noKn_ok.x⟩
theorem undInt : Tryz.prog.underlying 3 = some (.int .i64) := by kernel_rfl
theorem undInts : Tryz.prog.underlying 46 = some (.slice 3) := by kernel_rfl
theorem flatInt : flatT Tryz.prog 2 3 = some [some .i64] := by kernel_rfl
theorem sizeInt : sizeT Tryz.prog 3 = some [some IntKind.i64].length := by kernel_rfl
end Go.Proofs.YtndaookajciiaaaGreat
