/- ExecKnown, run: what is called within is known. No condition. -/
import Derived.Test.YtippeihoaapmpaaGreatF
namespace Go.Proofs.YtippeihoaapmpaaGreat
open Go.Abs
set_option maxRecDepth 1000000
theorem ran10 : isTrue (callT Tryz.prog Tryz.tbl kn 4000000 (.fn (.func 10) [] []) [] ⟨.e, 0⟩) = true := by kernel_rfl
end Go.Proofs.YtippeihoaapmpaaGreat
