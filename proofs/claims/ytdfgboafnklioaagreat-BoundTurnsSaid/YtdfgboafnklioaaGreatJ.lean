/- What is asked of the whole program, whatever the statement. No condition. -/
import Derived.Test.YtdfgboafnklioaaGreatJ0
import Derived.Test.YtdfgboafnklioaaGreatJ1
set_option linter.all false
namespace Go.Proofs.YtdfgboafnklioaaGreat.oW
set_option maxRecDepth 1000000
theorem RL:mapsRowed Tryz.checked.prog=true:=by kernel_rfl
theorem heard:Tryz.checked.prog.stopsHeard=true:=by kernel_rfl
end Go.Proofs.YtdfgboafnklioaaGreat.oW
