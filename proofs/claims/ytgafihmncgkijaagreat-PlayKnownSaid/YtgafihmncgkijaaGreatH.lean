/- What PlayKnown needs: its awake is known, and slices.Insert. No condition. -/
import Derived.Test.YtgafihmncgkijaaGreatM2
import Derived.Test.YtgafihmncgkijaaGreatX
import Derived.Test.YtgafihmncgkijaaGreatJ
import Derived.Test.YtgafihmncgkijaaGreatRows
namespace Go.Proofs.YtgafihmncgkijaaGreat
open Go.Abs
set_option maxRecDepth 1000000
set_option linter.unusedSectionVars false
theorem own : ownKnob Tryz.prog.godebug = none := by kernel_rfl
theorem ranA : isTrue (callT Tryz.prog Tryz.tbl Tryz.kx 4000000 (.fn (.func 13) [] []) [] ⟨.e, 0⟩) = true := by kernel_rfl
theorem known [Tok] : KnOk Tryz.prog EM.kn := ⟨knV_ok Tryz.tblOk Tryz.kx_ok (fun x hx => by
  simp only [List.mem_cons, List.not_mem_nil, or_false] at hx
  subst hx
  obtain ⟨S', h⟩ := isTrue_some ranA
  exact ⟨⟨4000000, S', h⟩, fun w => ent_of Tryz.func13 (by kernel_rfl) (by kernel_rfl) _ w⟩), Tryz.kx_ok.x⟩
end Go.Proofs.YtgafihmncgkijaaGreat
