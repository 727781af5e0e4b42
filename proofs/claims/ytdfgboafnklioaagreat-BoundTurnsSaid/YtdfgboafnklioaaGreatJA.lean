/- One of the facts that the row asks of the whole program. No condition. -/
import Derived.Test.YtdfgboafnklioaaGreatRows
import Derived.Test.YtdfgboafnklioaaGreatJE
import Derived.KernelRfl
set_option linter.all false
namespace Go.Proofs.YtdfgboafnklioaaGreat.BoundTurnsOf
set_option maxRecDepth 1000000
theorem j2:(Rows.boundTurnsRow.inPlace==Tryz.checked.prog.inPlace 6)=true:=by
 unfold Program.inPlace
 rw[cl]
 kernel_rfl
end Go.Proofs.YtdfgboafnklioaaGreat.BoundTurnsOf
