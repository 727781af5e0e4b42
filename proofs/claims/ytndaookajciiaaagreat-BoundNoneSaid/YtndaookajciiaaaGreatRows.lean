/-
  No cell of these rows narrows 'for every input' (looked for: loops, veiled, ifaces, maps, wideKeys, modest, calm, conditions, laid).
  DERIVED. THE GIVEN ROWS OF THIS SEAT. 4 by the template 'for every input the law returns true; each argument reads behind the call as it read before'; 0 by the template 'total and deterministic' (their statements: YtndaookajciiaaaGreatTotals.lean).
  GIVEN WITH THE SEED: the statements are not yours to turn. If you find one false, say at which input.
  Laid BY PROGRAM, IN A SANDBOX (cutbox-rows.mjs): the forced cells as the released guide's own fill.sh prints them over the translation 36d77cdf847777f0… (all of the seat's roots in one cut). By AI agents, Wed Nov 11 2026. No macro, syntax, notation, axiom, sorry.
-/
import Derived.Test.YtndaookajciiaaaGreatChecked
import GoSem.Claim
import GoSem.ClaimJoined
import GoSem.ClaimMapViews
import Derived.JoinedTies
import Derived.KernelRfl
namespace Go.Proofs.YtndaookajciiaaaGreat
/- THE CELL 'sum', in the pinned program and in every row, IS THE sha256 OF THE DUMP (.gsa) THAT YtndaookajciiaaaGreatProg.lean LOADS. Nothing in Lean hashes anything: it is a label: what it is worth is what the hold of that sum in a sandbox is worth. -/
noncomputable def Tryz.pinned : Pinned := { name := "ytndaookajciiaaagreat", sum := "36d77cdf847777f023f83996117b9b8e818535bdb4ac37dbc2a54829ac9dec5c", checked := Tryz.checked }
namespace Rows
def none {H : Type} : Left H := { results := [], args := [] }

/-- 'coxswainlaw30.BoundTells': WHATEVER THE INPUT: true; the input reads as it did. -/
def boundTellsSpec : ChangeSpec := { name := "boundTells", fn := fun _ => fun
  | [d] => { results := [.lit (.bool true)], args := [d] }
  | _ => none }
def boundTellsRow : OpenClaim := { program := "ytndaookajciiaaagreat", sum := "36d77cdf847777f023f83996117b9b8e818535bdb4ac37dbc2a54829ac9dec5c", func := "coxswain/coxswainlaw30.BoundTells", spec := "boundTells", unfollowed := true, recurses := true, apart := false }
def BoundTellsSaid : Prop := boundTellsRow.holds Tryz.pinned (OpenSpec.ofChange boundTellsSpec)

/-- ITS FALSE NEIGHBOUR: 'it returns false'. Refute it at one input. -/
def boundTellsWrong : ChangeSpec := { name := "boundTells", fn := fun _ => fun
  | [d] => { results := [.lit (.bool false)], args := [d] }
  | _ => none }
def BoundTellsWrongFalsely : Prop := boundTellsRow.holds Tryz.pinned (OpenSpec.ofChange boundTellsWrong)

/-- 'coxswainlaw30.BoundGrows': WHATEVER THE INPUT: true; the input reads as it did. -/
def boundGrowsSpec : ChangeSpec := { name := "boundGrows", fn := fun _ => fun
  | [d1, d2] => { results := [.lit (.bool true)], args := [d1, d2] }
  | _ => none }
def boundGrowsRow : OpenClaim := { program := "ytndaookajciiaaagreat", sum := "36d77cdf847777f023f83996117b9b8e818535bdb4ac37dbc2a54829ac9dec5c", func := "coxswain/coxswainlaw30.BoundGrows", spec := "boundGrows", unfollowed := true, recurses := true, apart := false }
def BoundGrowsSaid : Prop := boundGrowsRow.holds Tryz.pinned (OpenSpec.ofChange boundGrowsSpec)

/-- ITS FALSE NEIGHBOUR: 'it returns false'. Refute it at one input. -/
def boundGrowsWrong : ChangeSpec := { name := "boundGrows", fn := fun _ => fun
  | [d1, d2] => { results := [.lit (.bool false)], args := [d1, d2] }
  | _ => none }
def BoundGrowsWrongFalsely : Prop := boundGrowsRow.holds Tryz.pinned (OpenSpec.ofChange boundGrowsWrong)

/-- 'coxswainlaw30.BoundNone': WHATEVER THE INPUT: true; the input reads as it did. -/
def boundNoneSpec : ChangeSpec := { name := "boundNone", fn := fun _ => fun
  | [d1, d2] => { results := [.lit (.bool true)], args := [d1, d2] }
  | _ => none }
def boundNoneRow : OpenClaim := { program := "ytndaookajciiaaagreat", sum := "36d77cdf847777f023f83996117b9b8e818535bdb4ac37dbc2a54829ac9dec5c", func := "coxswain/coxswainlaw30.BoundNone", spec := "boundNone", unfollowed := true, recurses := true, apart := false }
def BoundNoneSaid : Prop := boundNoneRow.holds Tryz.pinned (OpenSpec.ofChange boundNoneSpec)

/-- ITS FALSE NEIGHBOUR: 'it returns false'. Refute it at one input. -/
def boundNoneWrong : ChangeSpec := { name := "boundNone", fn := fun _ => fun
  | [d1, d2] => { results := [.lit (.bool false)], args := [d1, d2] }
  | _ => none }
def BoundNoneWrongFalsely : Prop := boundNoneRow.holds Tryz.pinned (OpenSpec.ofChange boundNoneWrong)

/-- 'coxswainlaw27.ExecSetup': WHATEVER THE INPUT: true; the input reads as it did. -/
def execSetupSpec : ChangeSpec := { name := "execSetup", fn := fun _ => fun
  | [d] => { results := [.lit (.bool true)], args := [d] }
  | _ => none }
def execSetupRow : OpenClaim := { program := "ytndaookajciiaaagreat", sum := "36d77cdf847777f023f83996117b9b8e818535bdb4ac37dbc2a54829ac9dec5c", func := "coxswain/coxswainlaw27.ExecSetup", spec := "execSetup", unfollowed := true, recurses := true, apart := false }
def ExecSetupSaid : Prop := execSetupRow.holds Tryz.pinned (OpenSpec.ofChange execSetupSpec)

/-- ITS FALSE NEIGHBOUR: 'it returns false'. Refute it at one input. -/
def execSetupWrong : ChangeSpec := { name := "execSetup", fn := fun _ => fun
  | [d] => { results := [.lit (.bool false)], args := [d] }
  | _ => none }
def ExecSetupWrongFalsely : Prop := execSetupRow.holds Tryz.pinned (OpenSpec.ofChange execSetupWrong)

/- THE SECOND FORM. 'bulk': how many values and letters a reading holds, each counted each time it is reached (what is shared counts as often as it is met; a slice's spare places count too). A statement '..UptoSaid' is the law's where the arguments, and the package variables that the reading takes, are together of bulk at most 1048576: NARROWER than '..Said'. Prove '..Said' where nothing that the law and all that it calls make is longer than what came in: it says more and counts as full. Else prove '..UptoSaid'. A law counts once. -/
mutual
def uptoBulk {H : Type} : DataW H → Nat
  | .lit (.string bytes) => bytes.length + 1
  | .lit _ => 1
  | .nil => 1
  | .ptr d => uptoBulk d + 1
  | .slice elems spare => uptoBulkAll elems + uptoBulkAll spare + 1
  | .agg parts => uptoBulkAll parts + 1
  | .iface _ d => uptoBulk d + 1
  | .map entries => uptoBulkEntries entries + 1
  | .held _ => 1
def uptoBulkAll {H : Type} : List (DataW H) → Nat
  | [] => 0
  | d :: r => uptoBulk d + uptoBulkAll r
def uptoBulkEntries {H : Type} : List (Lit × DataW H) → Nat
  | [] => 0
  | x :: r => uptoBulkEntry x + uptoBulkEntries r
def uptoBulkEntry {H : Type} : Lit × DataW H → Nat
  | (.string bytes, d) => bytes.length + uptoBulk d + 1
  | (_, d) => uptoBulk d + 1
 end
def uptoSmall : (H : Type) → List (DataW H) → Bool := fun _ ds => decide (uptoBulkAll ds ≤ 1048576)
def OpenSpec.upto (s : _root_.Go.ChangeSpec) : _root_.Go.OpenSpec := { _root_.Go.OpenSpec.ofChange s with cond := some uptoSmall }

/-- 'coxswainlaw30.BoundTells', WHERE WHAT IT READS IS OF BULK AT MOST 1048576: true; the input reads as it did. -/
def boundTellsUptoRow : OpenClaim := { program := "ytndaookajciiaaagreat", sum := "36d77cdf847777f023f83996117b9b8e818535bdb4ac37dbc2a54829ac9dec5c", func := "coxswain/coxswainlaw30.BoundTells", spec := "boundTells", unfollowed := true, recurses := true, apart := false, narrowed := true }
def BoundTellsUptoSaid : Prop := boundTellsUptoRow.holds Tryz.pinned (OpenSpec.upto boundTellsSpec)

/-- 'coxswainlaw30.BoundGrows', WHERE WHAT IT READS IS OF BULK AT MOST 1048576: true; the input reads as it did. -/
def boundGrowsUptoRow : OpenClaim := { program := "ytndaookajciiaaagreat", sum := "36d77cdf847777f023f83996117b9b8e818535bdb4ac37dbc2a54829ac9dec5c", func := "coxswain/coxswainlaw30.BoundGrows", spec := "boundGrows", unfollowed := true, recurses := true, apart := false, narrowed := true }
def BoundGrowsUptoSaid : Prop := boundGrowsUptoRow.holds Tryz.pinned (OpenSpec.upto boundGrowsSpec)

/-- 'coxswainlaw30.BoundNone', WHERE WHAT IT READS IS OF BULK AT MOST 1048576: true; the input reads as it did. -/
def boundNoneUptoRow : OpenClaim := { program := "ytndaookajciiaaagreat", sum := "36d77cdf847777f023f83996117b9b8e818535bdb4ac37dbc2a54829ac9dec5c", func := "coxswain/coxswainlaw30.BoundNone", spec := "boundNone", unfollowed := true, recurses := true, apart := false, narrowed := true }
def BoundNoneUptoSaid : Prop := boundNoneUptoRow.holds Tryz.pinned (OpenSpec.upto boundNoneSpec)

/-- 'coxswainlaw27.ExecSetup', WHERE WHAT IT READS IS OF BULK AT MOST 1048576: true; the input reads as it did. -/
def execSetupUptoRow : OpenClaim := { program := "ytndaookajciiaaagreat", sum := "36d77cdf847777f023f83996117b9b8e818535bdb4ac37dbc2a54829ac9dec5c", func := "coxswain/coxswainlaw27.ExecSetup", spec := "execSetup", unfollowed := true, recurses := true, apart := false, narrowed := true }
def ExecSetupUptoSaid : Prop := execSetupUptoRow.holds Tryz.pinned (OpenSpec.upto execSetupSpec)

end Rows
end Go.Proofs.YtndaookajciiaaaGreat
