/- What the statements of this seat share: the closed calls are known, what is handed in is opened. Conditions: stated in each theorem. -/
import Derived.Test.YtjhaklmbjpajnaaT
import Derived.Test.YtjhaklmbjpajnaaX
import Derived.Test.YtjhaklmbjpajnaaRows
namespace Go.Proofs.Ytjhaklmbjpajnaa
open Go.Abs
set_option maxRecDepth 1000000
set_option linter.unusedSectionVars false
theorem own : ownKnob Try.prog.godebug = none := by kernel_rfl
theorem laidOut : laidOutB Try.prog = true := by kernel_rfl
theorem ran14 : isTrue (callT Try.prog Try.tbl Try.kx 4000000 (.fn (.func 14) [] []) [] ⟨.e, 0⟩) = true := by kernel_rfl
theorem ran45 : isTrue (callT Try.prog Try.tbl Try.kx 4000000 (.fn (.func 45) [] []) [] ⟨.e, 0⟩) = true := by kernel_rfl
noncomputable def kn : Known := ⟨knV [(14, .bool true), (45, .bool true)], xOf Try.xs⟩
noncomputable def EM : Mach := ⟨Try.prog, Try.tbl, kn⟩
theorem known [Tok] : KnOk Try.prog kn := ⟨knV_ok Try.tblOk Try.kx_ok (fun x hx => by
  simp only [List.mem_cons, List.not_mem_nil, or_false] at hx
  rcases hx with rfl | rfl
  · obtain ⟨S', h⟩ := isTrue_some ran14
    exact ⟨⟨4000000, S', h⟩, fun w => ent_of Try.func14 (by kernel_rfl) (by kernel_rfl) _ w⟩
  · obtain ⟨S', h⟩ := isTrue_some ran45
    exact ⟨⟨4000000, S', h⟩, fun w => ent_of Try.func45 (by kernel_rfl) (by kernel_rfl) _ w⟩), Try.kx_ok.x⟩
def ks3 : List (Option IntKind) := [some .i64, some .i64, some .i64]
def ks4 : List (Option IntKind) := [some .i64, some .i64, some .i64, some .i64]
theorem und22 : Try.prog.underlying 22 = some (.slice 77) := by kernel_rfl
theorem flat77 : flatT Try.prog 2 77 = some ks4 := by kernel_rfl
theorem size77 : sizeT Try.prog 77 = some ks4.length := by kernel_rfl
theorem str38 : isStructB Try.prog 38 = true := by kernel_rfl
theorem flat38 : flatT Try.prog 2 38 = some ks3 := by kernel_rfl
theorem size38 : sizeT Try.prog 38 = some ks3.length := by kernel_rfl
theorem str105 : isStructB Try.prog 105 = true := by kernel_rfl
theorem flat105 : flatT Try.prog 2 105 = some ks3 := by kernel_rfl
theorem size105 : sizeT Try.prog 105 = some ks3.length := by kernel_rfl
end Go.Proofs.Ytjhaklmbjpajnaa
