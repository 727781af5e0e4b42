/- What is asked of the whole program: its calls may enter. No condition. -/
import Derived.Test.YtdfgboafnklioaaGreatChecked
import Derived.JoinedOf
import Derived.RangeFuncIn
import Derived.ProofKit
import Derived.KernelRfl
set_option linter.all false
namespace Go.Proofs.YtdfgboafnklioaaGreat.oW
set_option maxRecDepth 1000000
theorem enters:Tryz.checked.prog.mayEnter=true:=by kernel_rfl
end Go.Proofs.YtdfgboafnklioaaGreat.oW
