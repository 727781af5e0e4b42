/- What is asked of the whole program, whatever the statement. No condition. -/
import Derived.Test.YtdidccjcbfcklaaGreatJ0
import Derived.Test.YtdidccjcbfcklaaGreatJ1
namespace Go.Proofs.YtdidccjcbfcklaaGreat.Facts
set_option maxRecDepth 1000000
theorem rowed : mapsRowed Tryz.checked.prog = true := by kernel_rfl
theorem heard : Tryz.checked.prog.stopsHeard = true := by kernel_rfl
end Go.Proofs.YtdidccjcbfcklaaGreat.Facts
