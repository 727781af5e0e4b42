/-
  No cell of these rows narrows 'for every input' (looked for: loops, veiled, ifaces, maps, wideKeys, modest, calm, conditions, laid).
  DERIVED. THE GIVEN ROWS OF THIS SEAT. 4 by the template 'for every input the law returns true; each argument reads behind the call as it read before'; 0 by the template 'total and deterministic' (their statements: YtdfgboafnklioaaGreatTotals.lean).
  GIVEN WITH THE SEED: the statements are not yours to turn. If you find one false, say at which input.
  Laid BY PROGRAM, IN A SANDBOX (cutbox-rows.mjs): the forced cells as the released guide's own fill.sh prints them over the translation ec97402ff8194d51… (all of the seat's roots in one cut). By AI agents, Wed Nov 11 2026. No macro, syntax, notation, axiom, sorry.
-/
import Derived.Test.YtdfgboafnklioaaGreatChecked
import GoSem.Claim
import GoSem.ClaimJoined
import GoSem.ClaimMapViews
import Derived.JoinedTies
import Derived.KernelRfl
namespace Go.Proofs.YtdfgboafnklioaaGreat
/- THE CELL 'sum', in the pinned program and in every row, IS THE sha256 OF THE DUMP (.gsa) THAT YtdfgboafnklioaaGreatProg.lean LOADS. Nothing in Lean hashes anything: it is a label: what it is worth is what the hold of that sum in a sandbox is worth. -/
noncomputable def Tryz.pinned : Pinned := { name := "ytdfgboafnklioaagreat", sum := "ec97402ff8194d518f77ccb245c500c962a145da087ef257282df690311158c1", checked := Tryz.checked }
namespace Rows
def none {H : Type} : Left H := { results := [], args := [] }

/-- 'coxswainlaw27.ExecSteps': WHATEVER THE INPUT: true; the input reads as it did. -/
def execStepsSpec : ChangeSpec := { name := "execSteps", fn := fun _ => fun
  | [d1, d2, d3, d4] => { results := [.lit (.bool true)], args := [d1, d2, d3, d4] }
  | _ => none }
def execStepsRow : OpenClaim := { program := "ytdfgboafnklioaagreat", sum := "ec97402ff8194d518f77ccb245c500c962a145da087ef257282df690311158c1", func := "coxswain/coxswainlaw27.ExecSteps", spec := "execSteps", unfollowed := true, recurses := true, apart := false }
def ExecStepsSaid : Prop := execStepsRow.holds Tryz.pinned (OpenSpec.ofChange execStepsSpec)

/-- ITS FALSE NEIGHBOUR: 'it returns false'. Refute it at one input. -/
def execStepsWrong : ChangeSpec := { name := "execSteps", fn := fun _ => fun
  | [d1, d2, d3, d4] => { results := [.lit (.bool false)], args := [d1, d2, d3, d4] }
  | _ => none }
def ExecStepsWrongFalsely : Prop := execStepsRow.holds Tryz.pinned (OpenSpec.ofChange execStepsWrong)

/-- 'coxswainlaw29.StillAlone': WHATEVER THE INPUT: true; the input reads as it did. -/
def stillAloneSpec : ChangeSpec := { name := "stillAlone", fn := fun _ => fun
  | [d1, d2, d3, d4] => { results := [.lit (.bool true)], args := [d1, d2, d3, d4] }
  | _ => none }
def stillAloneRow : OpenClaim := { program := "ytdfgboafnklioaagreat", sum := "ec97402ff8194d518f77ccb245c500c962a145da087ef257282df690311158c1", func := "coxswain/coxswainlaw29.StillAlone", spec := "stillAlone", unfollowed := true, recurses := true, apart := false }
def StillAloneSaid : Prop := stillAloneRow.holds Tryz.pinned (OpenSpec.ofChange stillAloneSpec)

/-- ITS FALSE NEIGHBOUR: 'it returns false'. Refute it at one input. -/
def stillAloneWrong : ChangeSpec := { name := "stillAlone", fn := fun _ => fun
  | [d1, d2, d3, d4] => { results := [.lit (.bool false)], args := [d1, d2, d3, d4] }
  | _ => none }
def StillAloneWrongFalsely : Prop := stillAloneRow.holds Tryz.pinned (OpenSpec.ofChange stillAloneWrong)

/-- 'coxswainlaw29.StillSteps': WHATEVER THE INPUT: true; the input reads as it did. -/
def stillStepsSpec : ChangeSpec := { name := "stillSteps", fn := fun _ => fun
  | [d1, d2, d3, d4] => { results := [.lit (.bool true)], args := [d1, d2, d3, d4] }
  | _ => none }
def stillStepsRow : OpenClaim := { program := "ytdfgboafnklioaagreat", sum := "ec97402ff8194d518f77ccb245c500c962a145da087ef257282df690311158c1", func := "coxswain/coxswainlaw29.StillSteps", spec := "stillSteps", unfollowed := true, recurses := true, apart := false }
def StillStepsSaid : Prop := stillStepsRow.holds Tryz.pinned (OpenSpec.ofChange stillStepsSpec)

/-- ITS FALSE NEIGHBOUR: 'it returns false'. Refute it at one input. -/
def stillStepsWrong : ChangeSpec := { name := "stillSteps", fn := fun _ => fun
  | [d1, d2, d3, d4] => { results := [.lit (.bool false)], args := [d1, d2, d3, d4] }
  | _ => none }
def StillStepsWrongFalsely : Prop := stillStepsRow.holds Tryz.pinned (OpenSpec.ofChange stillStepsWrong)

/-- 'coxswainlaw30.BoundTurns': WHATEVER THE INPUT: true; the input reads as it did. -/
def boundTurnsSpec : ChangeSpec := { name := "boundTurns", fn := fun _ => fun
  | [d1, d2] => { results := [.lit (.bool true)], args := [d1, d2] }
  | _ => none }
def boundTurnsRow : OpenClaim := { program := "ytdfgboafnklioaagreat", sum := "ec97402ff8194d518f77ccb245c500c962a145da087ef257282df690311158c1", func := "coxswain/coxswainlaw30.BoundTurns", spec := "boundTurns", unfollowed := true, recurses := true, apart := false }
def BoundTurnsSaid : Prop := boundTurnsRow.holds Tryz.pinned (OpenSpec.ofChange boundTurnsSpec)

/-- ITS FALSE NEIGHBOUR: 'it returns false'. Refute it at one input. -/
def boundTurnsWrong : ChangeSpec := { name := "boundTurns", fn := fun _ => fun
  | [d1, d2] => { results := [.lit (.bool false)], args := [d1, d2] }
  | _ => none }
def BoundTurnsWrongFalsely : Prop := boundTurnsRow.holds Tryz.pinned (OpenSpec.ofChange boundTurnsWrong)

/- THE SECOND FORM. 'bulk': how many values and letters a reading holds, each counted each time it is reached (what is shared counts as often as it is met; a slice's spare places count too). A statement '..UptoSaid' is the law's where the arguments, and the package variables that the reading takes, are together of bulk at most 1048576: NARROWER than '..Said'. Prove '..Said' where nothing that the law and all that it calls make is longer than what came in: it says more and counts as full. Else prove '..UptoSaid'. A law counts once. -/
mutual
def uptoBulk {H : Type} : DataW H → Nat
  | .lit (.string bytes) => bytes.length + 1
  | .lit _ => 1
  | .nil => 1
  | .ptr d => uptoBulk d + 1
  | .slice elems spare => uptoBulkAll elems + uptoBulkAll spare + 1
  | .agg parts => uptoBulkAll parts + 1
  | .iface _ d => uptoBulk d + 1
  | .map entries => uptoBulkEntries entries + 1
  | .held _ => 1
def uptoBulkAll {H : Type} : List (DataW H) → Nat
  | [] => 0
  | d :: r => uptoBulk d + uptoBulkAll r
def uptoBulkEntries {H : Type} : List (Lit × DataW H) → Nat
  | [] => 0
  | x :: r => uptoBulkEntry x + uptoBulkEntries r
def uptoBulkEntry {H : Type} : Lit × DataW H → Nat
  | (.string bytes, d) => bytes.length + uptoBulk d + 1
  | (_, d) => uptoBulk d + 1
 end
def uptoSmall : (H : Type) → List (DataW H) → Bool := fun _ ds => decide (uptoBulkAll ds ≤ 1048576)
def OpenSpec.upto (s : _root_.Go.ChangeSpec) : _root_.Go.OpenSpec := { _root_.Go.OpenSpec.ofChange s with cond := some uptoSmall }

/-- 'coxswainlaw27.ExecSteps', WHERE WHAT IT READS IS OF BULK AT MOST 1048576: true; the input reads as it did. -/
def execStepsUptoRow : OpenClaim := { program := "ytdfgboafnklioaagreat", sum := "ec97402ff8194d518f77ccb245c500c962a145da087ef257282df690311158c1", func := "coxswain/coxswainlaw27.ExecSteps", spec := "execSteps", unfollowed := true, recurses := true, apart := false, narrowed := true }
def ExecStepsUptoSaid : Prop := execStepsUptoRow.holds Tryz.pinned (OpenSpec.upto execStepsSpec)

/-- 'coxswainlaw29.StillAlone', WHERE WHAT IT READS IS OF BULK AT MOST 1048576: true; the input reads as it did. -/
def stillAloneUptoRow : OpenClaim := { program := "ytdfgboafnklioaagreat", sum := "ec97402ff8194d518f77ccb245c500c962a145da087ef257282df690311158c1", func := "coxswain/coxswainlaw29.StillAlone", spec := "stillAlone", unfollowed := true, recurses := true, apart := false, narrowed := true }
def StillAloneUptoSaid : Prop := stillAloneUptoRow.holds Tryz.pinned (OpenSpec.upto stillAloneSpec)

/-- 'coxswainlaw29.StillSteps', WHERE WHAT IT READS IS OF BULK AT MOST 1048576: true; the input reads as it did. -/
def stillStepsUptoRow : OpenClaim := { program := "ytdfgboafnklioaagreat", sum := "ec97402ff8194d518f77ccb245c500c962a145da087ef257282df690311158c1", func := "coxswain/coxswainlaw29.StillSteps", spec := "stillSteps", unfollowed := true, recurses := true, apart := false, narrowed := true }
def StillStepsUptoSaid : Prop := stillStepsUptoRow.holds Tryz.pinned (OpenSpec.upto stillStepsSpec)

/-- 'coxswainlaw30.BoundTurns', WHERE WHAT IT READS IS OF BULK AT MOST 1048576: true; the input reads as it did. -/
def boundTurnsUptoRow : OpenClaim := { program := "ytdfgboafnklioaagreat", sum := "ec97402ff8194d518f77ccb245c500c962a145da087ef257282df690311158c1", func := "coxswain/coxswainlaw30.BoundTurns", spec := "boundTurns", unfollowed := true, recurses := true, apart := false, narrowed := true }
def BoundTurnsUptoSaid : Prop := boundTurnsUptoRow.holds Tryz.pinned (OpenSpec.upto boundTurnsSpec)

end Rows
end Go.Proofs.YtdfgboafnklioaaGreat
