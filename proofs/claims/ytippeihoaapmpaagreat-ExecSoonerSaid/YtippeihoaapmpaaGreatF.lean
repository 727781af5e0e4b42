/- What the statements of this seat share: the closed calls are known. No condition. -/
import Derived.Test.YtippeihoaapmpaaGreatT
import Derived.Test.YtippeihoaapmpaaGreatJ
import Derived.Test.YtippeihoaapmpaaGreatRows
namespace Go.Proofs.YtippeihoaapmpaaGreat
open Go.Abs
set_option maxRecDepth 1000000
theorem own : ownKnob Tryz.prog.godebug = none := by kernel_rfl
theorem undInt : Tryz.prog.underlying 3 = some (.int .i64) := by kernel_rfl
theorem ran15 : isTrue (callT Tryz.prog Tryz.tbl noKn 4000000 (.fn (.func 15) [] []) [] ⟨.e, 0⟩) = true := by kernel_rfl
theorem ran35 : isTrue (callT Tryz.prog Tryz.tbl noKn 4000000 (.fn (.func 35) [] []) [] ⟨.e, 0⟩) = true := by kernel_rfl
theorem ran45 : isTrue (callT Tryz.prog Tryz.tbl noKn 4000000 (.fn (.func 45) [] []) [] ⟨.e, 0⟩) = true := by kernel_rfl
noncomputable def kn : Known := ⟨knV [(15, .bool true), (35, .bool true), (45, .bool true)], noKn.x⟩
noncomputable def EM : Mach := ⟨Tryz.prog, Tryz.tbl, kn⟩
theorem known [Tok] : KnOk Tryz.prog kn := ⟨knV_ok Tryz.tblOk noKn_ok (fun x hx => by
  simp only [List.mem_cons, List.not_mem_nil, or_false] at hx
  rcases hx with rfl | rfl | rfl
  · obtain ⟨S', h⟩ := isTrue_some ran15
    exact ⟨⟨4000000, S', h⟩, fun w => ent_of Tryz.func15 (by kernel_rfl) (by kernel_rfl) _ w⟩
  · obtain ⟨S', h⟩ := isTrue_some ran35
    exact ⟨⟨4000000, S', h⟩, fun w => ent_of Tryz.func35 (by kernel_rfl) (by kernel_rfl) _ w⟩
  · obtain ⟨S', h⟩ := isTrue_some ran45
    exact ⟨⟨4000000, S', h⟩, fun w => ent_of Tryz.func45 (by kernel_rfl) (by kernel_rfl) _ w⟩), noKn_ok.x⟩
end Go.Proofs.YtippeihoaapmpaaGreat
