/- One of the facts that the row asks of the whole program. No condition. -/
import Derived.Test.YtdfgboafnklioaaGreatRows
import Derived.KernelRfl
set_option linter.all false
namespace Go.Proofs.YtdfgboafnklioaaGreat.BoundTurnsOf
set_option maxRecDepth 1000000
theorem j3:(Rows.boundTurnsRow.unfollowed==Tryz.checked.prog.unfollowed 6)=true:=by kernel_rfl
end Go.Proofs.YtdfgboafnklioaaGreat.BoundTurnsOf
