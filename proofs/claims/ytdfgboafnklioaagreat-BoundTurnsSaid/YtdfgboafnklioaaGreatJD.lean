/- One of the facts that the row asks of the whole program. No condition. -/
import Derived.Test.YtdfgboafnklioaaGreatRows
import Derived.Test.YtdfgboafnklioaaGreatJE
import Derived.KernelRfl
set_option linter.all false
namespace Go.Proofs.YtdfgboafnklioaaGreat.BoundTurnsOf
set_option maxRecDepth 1000000
theorem j5:(Rows.boundTurnsRow.named==Tryz.checked.prog.varsNamed 6)=true:=by
 unfold Program.varsNamed
 rw[cl]
 kernel_rfl
end Go.Proofs.YtdfgboafnklioaaGreat.BoundTurnsOf
