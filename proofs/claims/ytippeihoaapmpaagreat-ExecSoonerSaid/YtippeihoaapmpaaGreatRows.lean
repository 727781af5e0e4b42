/-
  No cell of these rows narrows 'for every input' (looked for: loops, veiled, ifaces, maps, wideKeys, modest, calm, conditions, laid).
  DERIVED. THE GIVEN ROWS OF THIS SEAT. 12 by the template 'for every input the law returns true; each argument reads behind the call as it read before'; 0 by the template 'total and deterministic' (their statements: YtippeihoaapmpaaGreatTotals.lean).
  GIVEN WITH THE SEED: the statements are not yours to turn. If you find one false, say at which input.
  Laid BY PROGRAM, IN A SANDBOX (cutbox-rows.mjs): the forced cells as the released guide's own fill.sh prints them over the translation 941dc80167d24af7… (all of the seat's roots in one cut). By AI agents, Wed Nov 11 2026. No macro, syntax, notation, axiom, sorry.
-/
import Derived.Test.YtippeihoaapmpaaGreatChecked
import GoSem.Claim
import GoSem.ClaimJoined
import GoSem.ClaimMapViews
import Derived.JoinedTies
import Derived.KernelRfl
namespace Go.Proofs.YtippeihoaapmpaaGreat
/- THE CELL 'sum', in the pinned program and in every row, IS THE sha256 OF THE DUMP (.gsa) THAT YtippeihoaapmpaaGreatProg.lean LOADS. Nothing in Lean hashes anything: it is a label: what it is worth is what the hold of that sum in a sandbox is worth. -/
noncomputable def Tryz.pinned : Pinned := { name := "ytippeihoaapmpaagreat", sum := "941dc80167d24af7d23e554b9e9633192b0b99a2aa2fedc03d3b63e7aedd6905", checked := Tryz.checked }
namespace Rows
def none {H : Type} : Left H := { results := [], args := [] }

/-- 'coxswainlaw30.BoundTells': WHATEVER THE INPUT: true; the input reads as it did. -/
def boundTellsSpec : ChangeSpec := { name := "boundTells", fn := fun _ => fun
  | [d] => { results := [.lit (.bool true)], args := [d] }
  | _ => none }
def boundTellsRow : OpenClaim := { program := "ytippeihoaapmpaagreat", sum := "941dc80167d24af7d23e554b9e9633192b0b99a2aa2fedc03d3b63e7aedd6905", func := "coxswain/coxswainlaw30.BoundTells", spec := "boundTells", unfollowed := true, recurses := true, apart := false }
def BoundTellsSaid : Prop := boundTellsRow.holds Tryz.pinned (OpenSpec.ofChange boundTellsSpec)

/-- ITS FALSE NEIGHBOUR: 'it returns false'. Refute it at one input. -/
def boundTellsWrong : ChangeSpec := { name := "boundTells", fn := fun _ => fun
  | [d] => { results := [.lit (.bool false)], args := [d] }
  | _ => none }
def BoundTellsWrongFalsely : Prop := boundTellsRow.holds Tryz.pinned (OpenSpec.ofChange boundTellsWrong)

/-- 'coxswainlaw30.BoundKnown': WHATEVER THE INPUT: true; the input reads as it did. -/
def boundKnownSpec : ChangeSpec := { name := "boundKnown", fn := fun _ => fun
  | [] => { results := [.lit (.bool true)], args := [] }
  | _ => none }
def boundKnownRow : OpenClaim := { program := "ytippeihoaapmpaagreat", sum := "941dc80167d24af7d23e554b9e9633192b0b99a2aa2fedc03d3b63e7aedd6905", func := "coxswain/coxswainlaw30.BoundKnown", spec := "boundKnown", unfollowed := true, recurses := true, apart := false }
def BoundKnownSaid : Prop := boundKnownRow.holds Tryz.pinned (OpenSpec.ofChange boundKnownSpec)

/-- ITS FALSE NEIGHBOUR: 'it returns false'. Refute it at one input. -/
def boundKnownWrong : ChangeSpec := { name := "boundKnown", fn := fun _ => fun
  | [] => { results := [.lit (.bool false)], args := [] }
  | _ => none }
def BoundKnownWrongFalsely : Prop := boundKnownRow.holds Tryz.pinned (OpenSpec.ofChange boundKnownWrong)

/-- 'coxswainlaw30.BoundGrows': WHATEVER THE INPUT: true; the input reads as it did. -/
def boundGrowsSpec : ChangeSpec := { name := "boundGrows", fn := fun _ => fun
  | [d1, d2] => { results := [.lit (.bool true)], args := [d1, d2] }
  | _ => none }
def boundGrowsRow : OpenClaim := { program := "ytippeihoaapmpaagreat", sum := "941dc80167d24af7d23e554b9e9633192b0b99a2aa2fedc03d3b63e7aedd6905", func := "coxswain/coxswainlaw30.BoundGrows", spec := "boundGrows", unfollowed := true, recurses := true, apart := false }
def BoundGrowsSaid : Prop := boundGrowsRow.holds Tryz.pinned (OpenSpec.ofChange boundGrowsSpec)

/-- ITS FALSE NEIGHBOUR: 'it returns false'. Refute it at one input. -/
def boundGrowsWrong : ChangeSpec := { name := "boundGrows", fn := fun _ => fun
  | [d1, d2] => { results := [.lit (.bool false)], args := [d1, d2] }
  | _ => none }
def BoundGrowsWrongFalsely : Prop := boundGrowsRow.holds Tryz.pinned (OpenSpec.ofChange boundGrowsWrong)

/-- 'coxswainlaw30.BoundNone': WHATEVER THE INPUT: true; the input reads as it did. -/
def boundNoneSpec : ChangeSpec := { name := "boundNone", fn := fun _ => fun
  | [d1, d2] => { results := [.lit (.bool true)], args := [d1, d2] }
  | _ => none }
def boundNoneRow : OpenClaim := { program := "ytippeihoaapmpaagreat", sum := "941dc80167d24af7d23e554b9e9633192b0b99a2aa2fedc03d3b63e7aedd6905", func := "coxswain/coxswainlaw30.BoundNone", spec := "boundNone", unfollowed := true, recurses := true, apart := false }
def BoundNoneSaid : Prop := boundNoneRow.holds Tryz.pinned (OpenSpec.ofChange boundNoneSpec)

/-- ITS FALSE NEIGHBOUR: 'it returns false'. Refute it at one input. -/
def boundNoneWrong : ChangeSpec := { name := "boundNone", fn := fun _ => fun
  | [d1, d2] => { results := [.lit (.bool false)], args := [d1, d2] }
  | _ => none }
def BoundNoneWrongFalsely : Prop := boundNoneRow.holds Tryz.pinned (OpenSpec.ofChange boundNoneWrong)

/-- 'coxswainlaw29.StillOdd': WHATEVER THE INPUT: true; the input reads as it did. -/
def stillOddSpec : ChangeSpec := { name := "stillOdd", fn := fun _ => fun
  | [d1, d2] => { results := [.lit (.bool true)], args := [d1, d2] }
  | _ => none }
def stillOddRow : OpenClaim := { program := "ytippeihoaapmpaagreat", sum := "941dc80167d24af7d23e554b9e9633192b0b99a2aa2fedc03d3b63e7aedd6905", func := "coxswain/coxswainlaw29.StillOdd", spec := "stillOdd", unfollowed := true, recurses := true, apart := false }
def StillOddSaid : Prop := stillOddRow.holds Tryz.pinned (OpenSpec.ofChange stillOddSpec)

/-- ITS FALSE NEIGHBOUR: 'it returns false'. Refute it at one input. -/
def stillOddWrong : ChangeSpec := { name := "stillOdd", fn := fun _ => fun
  | [d1, d2] => { results := [.lit (.bool false)], args := [d1, d2] }
  | _ => none }
def StillOddWrongFalsely : Prop := stillOddRow.holds Tryz.pinned (OpenSpec.ofChange stillOddWrong)

/-- 'coxswainlaw27.ExecSetup': WHATEVER THE INPUT: true; the input reads as it did. -/
def execSetupSpec : ChangeSpec := { name := "execSetup", fn := fun _ => fun
  | [d] => { results := [.lit (.bool true)], args := [d] }
  | _ => none }
def execSetupRow : OpenClaim := { program := "ytippeihoaapmpaagreat", sum := "941dc80167d24af7d23e554b9e9633192b0b99a2aa2fedc03d3b63e7aedd6905", func := "coxswain/coxswainlaw27.ExecSetup", spec := "execSetup", unfollowed := true, recurses := true, apart := false }
def ExecSetupSaid : Prop := execSetupRow.holds Tryz.pinned (OpenSpec.ofChange execSetupSpec)

/-- ITS FALSE NEIGHBOUR: 'it returns false'. Refute it at one input. -/
def execSetupWrong : ChangeSpec := { name := "execSetup", fn := fun _ => fun
  | [d] => { results := [.lit (.bool false)], args := [d] }
  | _ => none }
def ExecSetupWrongFalsely : Prop := execSetupRow.holds Tryz.pinned (OpenSpec.ofChange execSetupWrong)

/-- 'coxswainlaw27.ExecNone': WHATEVER THE INPUT: true; the input reads as it did. -/
def execNoneSpec : ChangeSpec := { name := "execNone", fn := fun _ => fun
  | [d] => { results := [.lit (.bool true)], args := [d] }
  | _ => none }
def execNoneRow : OpenClaim := { program := "ytippeihoaapmpaagreat", sum := "941dc80167d24af7d23e554b9e9633192b0b99a2aa2fedc03d3b63e7aedd6905", func := "coxswain/coxswainlaw27.ExecNone", spec := "execNone", unfollowed := true, recurses := true, apart := false }
def ExecNoneSaid : Prop := execNoneRow.holds Tryz.pinned (OpenSpec.ofChange execNoneSpec)

/-- ITS FALSE NEIGHBOUR: 'it returns false'. Refute it at one input. -/
def execNoneWrong : ChangeSpec := { name := "execNone", fn := fun _ => fun
  | [d] => { results := [.lit (.bool false)], args := [d] }
  | _ => none }
def ExecNoneWrongFalsely : Prop := execNoneRow.holds Tryz.pinned (OpenSpec.ofChange execNoneWrong)

/-- 'coxswainlaw27.ExecKnown': WHATEVER THE INPUT: true; the input reads as it did. -/
def execKnownSpec : ChangeSpec := { name := "execKnown", fn := fun _ => fun
  | [] => { results := [.lit (.bool true)], args := [] }
  | _ => none }
def execKnownRow : OpenClaim := { program := "ytippeihoaapmpaagreat", sum := "941dc80167d24af7d23e554b9e9633192b0b99a2aa2fedc03d3b63e7aedd6905", func := "coxswain/coxswainlaw27.ExecKnown", spec := "execKnown", unfollowed := true, recurses := true, apart := false }
def ExecKnownSaid : Prop := execKnownRow.holds Tryz.pinned (OpenSpec.ofChange execKnownSpec)

/-- ITS FALSE NEIGHBOUR: 'it returns false'. Refute it at one input. -/
def execKnownWrong : ChangeSpec := { name := "execKnown", fn := fun _ => fun
  | [] => { results := [.lit (.bool false)], args := [] }
  | _ => none }
def ExecKnownWrongFalsely : Prop := execKnownRow.holds Tryz.pinned (OpenSpec.ofChange execKnownWrong)

/-- 'coxswainlaw27.ExecNew': WHATEVER THE INPUT: true; the input reads as it did. -/
def execNewSpec : ChangeSpec := { name := "execNew", fn := fun _ => fun
  | [d1, d2, d3, d4, d5] => { results := [.lit (.bool true)], args := [d1, d2, d3, d4, d5] }
  | _ => none }
def execNewRow : OpenClaim := { program := "ytippeihoaapmpaagreat", sum := "941dc80167d24af7d23e554b9e9633192b0b99a2aa2fedc03d3b63e7aedd6905", func := "coxswain/coxswainlaw27.ExecNew", spec := "execNew", unfollowed := true, recurses := true, apart := false }
def ExecNewSaid : Prop := execNewRow.holds Tryz.pinned (OpenSpec.ofChange execNewSpec)

/-- ITS FALSE NEIGHBOUR: 'it returns false'. Refute it at one input. -/
def execNewWrong : ChangeSpec := { name := "execNew", fn := fun _ => fun
  | [d1, d2, d3, d4, d5] => { results := [.lit (.bool false)], args := [d1, d2, d3, d4, d5] }
  | _ => none }
def ExecNewWrongFalsely : Prop := execNewRow.holds Tryz.pinned (OpenSpec.ofChange execNewWrong)

/-- 'coxswainlaw27.ExecSooner': WHATEVER THE INPUT: true; the input reads as it did. -/
def execSoonerSpec : ChangeSpec := { name := "execSooner", fn := fun _ => fun
  | [d1, d2] => { results := [.lit (.bool true)], args := [d1, d2] }
  | _ => none }
def execSoonerRow : OpenClaim := { program := "ytippeihoaapmpaagreat", sum := "941dc80167d24af7d23e554b9e9633192b0b99a2aa2fedc03d3b63e7aedd6905", func := "coxswain/coxswainlaw27.ExecSooner", spec := "execSooner", unfollowed := true, recurses := true, apart := false }
def ExecSoonerSaid : Prop := execSoonerRow.holds Tryz.pinned (OpenSpec.ofChange execSoonerSpec)

/-- ITS FALSE NEIGHBOUR: 'it returns false'. Refute it at one input. -/
def execSoonerWrong : ChangeSpec := { name := "execSooner", fn := fun _ => fun
  | [d1, d2] => { results := [.lit (.bool false)], args := [d1, d2] }
  | _ => none }
def ExecSoonerWrongFalsely : Prop := execSoonerRow.holds Tryz.pinned (OpenSpec.ofChange execSoonerWrong)

/-- 'coxswainlaw29.StillKnown': WHATEVER THE INPUT: true; the input reads as it did. -/
def stillKnownSpec : ChangeSpec := { name := "stillKnown", fn := fun _ => fun
  | [] => { results := [.lit (.bool true)], args := [] }
  | _ => none }
def stillKnownRow : OpenClaim := { program := "ytippeihoaapmpaagreat", sum := "941dc80167d24af7d23e554b9e9633192b0b99a2aa2fedc03d3b63e7aedd6905", func := "coxswain/coxswainlaw29.StillKnown", spec := "stillKnown", unfollowed := true, recurses := true, apart := false }
def StillKnownSaid : Prop := stillKnownRow.holds Tryz.pinned (OpenSpec.ofChange stillKnownSpec)

/-- ITS FALSE NEIGHBOUR: 'it returns false'. Refute it at one input. -/
def stillKnownWrong : ChangeSpec := { name := "stillKnown", fn := fun _ => fun
  | [] => { results := [.lit (.bool false)], args := [] }
  | _ => none }
def StillKnownWrongFalsely : Prop := stillKnownRow.holds Tryz.pinned (OpenSpec.ofChange stillKnownWrong)

/-- 'coxswainlaw27.ExecApart': WHATEVER THE INPUT: true; the input reads as it did. -/
def execApartSpec : ChangeSpec := { name := "execApart", fn := fun _ => fun
  | [d] => { results := [.lit (.bool true)], args := [d] }
  | _ => none }
def execApartRow : OpenClaim := { program := "ytippeihoaapmpaagreat", sum := "941dc80167d24af7d23e554b9e9633192b0b99a2aa2fedc03d3b63e7aedd6905", func := "coxswain/coxswainlaw27.ExecApart", spec := "execApart", unfollowed := true, recurses := true, apart := false }
def ExecApartSaid : Prop := execApartRow.holds Tryz.pinned (OpenSpec.ofChange execApartSpec)

/-- ITS FALSE NEIGHBOUR: 'it returns false'. Refute it at one input. -/
def execApartWrong : ChangeSpec := { name := "execApart", fn := fun _ => fun
  | [d] => { results := [.lit (.bool false)], args := [d] }
  | _ => none }
def ExecApartWrongFalsely : Prop := execApartRow.holds Tryz.pinned (OpenSpec.ofChange execApartWrong)

/- THE SECOND FORM. 'bulk': how many values and letters a reading holds, each counted each time it is reached (what is shared counts as often as it is met; a slice's spare places count too). A statement '..UptoSaid' is the law's where the arguments, and the package variables that the reading takes, are together of bulk at most 1048576: NARROWER than '..Said'. Prove '..Said' where nothing that the law and all that it calls make is longer than what came in: it says more and counts as full. Else prove '..UptoSaid'. A law counts once. -/
mutual
def uptoBulk {H : Type} : DataW H → Nat
  | .lit (.string bytes) => bytes.length + 1
  | .lit _ => 1
  | .nil => 1
  | .ptr d => uptoBulk d + 1
  | .slice elems spare => uptoBulkAll elems + uptoBulkAll spare + 1
  | .agg parts => uptoBulkAll parts + 1
  | .iface _ d => uptoBulk d + 1
  | .map entries => uptoBulkEntries entries + 1
  | .held _ => 1
def uptoBulkAll {H : Type} : List (DataW H) → Nat
  | [] => 0
  | d :: r => uptoBulk d + uptoBulkAll r
def uptoBulkEntries {H : Type} : List (Lit × DataW H) → Nat
  | [] => 0
  | x :: r => uptoBulkEntry x + uptoBulkEntries r
def uptoBulkEntry {H : Type} : Lit × DataW H → Nat
  | (.string bytes, d) => bytes.length + uptoBulk d + 1
  | (_, d) => uptoBulk d + 1
 end
def uptoSmall : (H : Type) → List (DataW H) → Bool := fun _ ds => decide (uptoBulkAll ds ≤ 1048576)
def OpenSpec.upto (s : _root_.Go.ChangeSpec) : _root_.Go.OpenSpec := { _root_.Go.OpenSpec.ofChange s with cond := some uptoSmall }

/-- 'coxswainlaw30.BoundTells', WHERE WHAT IT READS IS OF BULK AT MOST 1048576: true; the input reads as it did. -/
def boundTellsUptoRow : OpenClaim := { program := "ytippeihoaapmpaagreat", sum := "941dc80167d24af7d23e554b9e9633192b0b99a2aa2fedc03d3b63e7aedd6905", func := "coxswain/coxswainlaw30.BoundTells", spec := "boundTells", unfollowed := true, recurses := true, apart := false, narrowed := true }
def BoundTellsUptoSaid : Prop := boundTellsUptoRow.holds Tryz.pinned (OpenSpec.upto boundTellsSpec)

/-- 'coxswainlaw30.BoundKnown', WHERE WHAT IT READS IS OF BULK AT MOST 1048576: true; the input reads as it did. -/
def boundKnownUptoRow : OpenClaim := { program := "ytippeihoaapmpaagreat", sum := "941dc80167d24af7d23e554b9e9633192b0b99a2aa2fedc03d3b63e7aedd6905", func := "coxswain/coxswainlaw30.BoundKnown", spec := "boundKnown", unfollowed := true, recurses := true, apart := false, narrowed := true }
def BoundKnownUptoSaid : Prop := boundKnownUptoRow.holds Tryz.pinned (OpenSpec.upto boundKnownSpec)

/-- 'coxswainlaw30.BoundGrows', WHERE WHAT IT READS IS OF BULK AT MOST 1048576: true; the input reads as it did. -/
def boundGrowsUptoRow : OpenClaim := { program := "ytippeihoaapmpaagreat", sum := "941dc80167d24af7d23e554b9e9633192b0b99a2aa2fedc03d3b63e7aedd6905", func := "coxswain/coxswainlaw30.BoundGrows", spec := "boundGrows", unfollowed := true, recurses := true, apart := false, narrowed := true }
def BoundGrowsUptoSaid : Prop := boundGrowsUptoRow.holds Tryz.pinned (OpenSpec.upto boundGrowsSpec)

/-- 'coxswainlaw30.BoundNone', WHERE WHAT IT READS IS OF BULK AT MOST 1048576: true; the input reads as it did. -/
def boundNoneUptoRow : OpenClaim := { program := "ytippeihoaapmpaagreat", sum := "941dc80167d24af7d23e554b9e9633192b0b99a2aa2fedc03d3b63e7aedd6905", func := "coxswain/coxswainlaw30.BoundNone", spec := "boundNone", unfollowed := true, recurses := true, apart := false, narrowed := true }
def BoundNoneUptoSaid : Prop := boundNoneUptoRow.holds Tryz.pinned (OpenSpec.upto boundNoneSpec)

/-- 'coxswainlaw29.StillOdd', WHERE WHAT IT READS IS OF BULK AT MOST 1048576: true; the input reads as it did. -/
def stillOddUptoRow : OpenClaim := { program := "ytippeihoaapmpaagreat", sum := "941dc80167d24af7d23e554b9e9633192b0b99a2aa2fedc03d3b63e7aedd6905", func := "coxswain/coxswainlaw29.StillOdd", spec := "stillOdd", unfollowed := true, recurses := true, apart := false, narrowed := true }
def StillOddUptoSaid : Prop := stillOddUptoRow.holds Tryz.pinned (OpenSpec.upto stillOddSpec)

/-- 'coxswainlaw27.ExecSetup', WHERE WHAT IT READS IS OF BULK AT MOST 1048576: true; the input reads as it did. -/
def execSetupUptoRow : OpenClaim := { program := "ytippeihoaapmpaagreat", sum := "941dc80167d24af7d23e554b9e9633192b0b99a2aa2fedc03d3b63e7aedd6905", func := "coxswain/coxswainlaw27.ExecSetup", spec := "execSetup", unfollowed := true, recurses := true, apart := false, narrowed := true }
def ExecSetupUptoSaid : Prop := execSetupUptoRow.holds Tryz.pinned (OpenSpec.upto execSetupSpec)

/-- 'coxswainlaw27.ExecNone', WHERE WHAT IT READS IS OF BULK AT MOST 1048576: true; the input reads as it did. -/
def execNoneUptoRow : OpenClaim := { program := "ytippeihoaapmpaagreat", sum := "941dc80167d24af7d23e554b9e9633192b0b99a2aa2fedc03d3b63e7aedd6905", func := "coxswain/coxswainlaw27.ExecNone", spec := "execNone", unfollowed := true, recurses := true, apart := false, narrowed := true }
def ExecNoneUptoSaid : Prop := execNoneUptoRow.holds Tryz.pinned (OpenSpec.upto execNoneSpec)

/-- 'coxswainlaw27.ExecKnown', WHERE WHAT IT READS IS OF BULK AT MOST 1048576: true; the input reads as it did. -/
def execKnownUptoRow : OpenClaim := { program := "ytippeihoaapmpaagreat", sum := "941dc80167d24af7d23e554b9e9633192b0b99a2aa2fedc03d3b63e7aedd6905", func := "coxswain/coxswainlaw27.ExecKnown", spec := "execKnown", unfollowed := true, recurses := true, apart := false, narrowed := true }
def ExecKnownUptoSaid : Prop := execKnownUptoRow.holds Tryz.pinned (OpenSpec.upto execKnownSpec)

/-- 'coxswainlaw27.ExecNew', WHERE WHAT IT READS IS OF BULK AT MOST 1048576: true; the input reads as it did. -/
def execNewUptoRow : OpenClaim := { program := "ytippeihoaapmpaagreat", sum := "941dc80167d24af7d23e554b9e9633192b0b99a2aa2fedc03d3b63e7aedd6905", func := "coxswain/coxswainlaw27.ExecNew", spec := "execNew", unfollowed := true, recurses := true, apart := false, narrowed := true }
def ExecNewUptoSaid : Prop := execNewUptoRow.holds Tryz.pinned (OpenSpec.upto execNewSpec)

/-- 'coxswainlaw27.ExecSooner', WHERE WHAT IT READS IS OF BULK AT MOST 1048576: true; the input reads as it did. -/
def execSoonerUptoRow : OpenClaim := { program := "ytippeihoaapmpaagreat", sum := "941dc80167d24af7d23e554b9e9633192b0b99a2aa2fedc03d3b63e7aedd6905", func := "coxswain/coxswainlaw27.ExecSooner", spec := "execSooner", unfollowed := true, recurses := true, apart := false, narrowed := true }
def ExecSoonerUptoSaid : Prop := execSoonerUptoRow.holds Tryz.pinned (OpenSpec.upto execSoonerSpec)

/-- 'coxswainlaw29.StillKnown', WHERE WHAT IT READS IS OF BULK AT MOST 1048576: true; the input reads as it did. -/
def stillKnownUptoRow : OpenClaim := { program := "ytippeihoaapmpaagreat", sum := "941dc80167d24af7d23e554b9e9633192b0b99a2aa2fedc03d3b63e7aedd6905", func := "coxswain/coxswainlaw29.StillKnown", spec := "stillKnown", unfollowed := true, recurses := true, apart := false, narrowed := true }
def StillKnownUptoSaid : Prop := stillKnownUptoRow.holds Tryz.pinned (OpenSpec.upto stillKnownSpec)

/-- 'coxswainlaw27.ExecApart', WHERE WHAT IT READS IS OF BULK AT MOST 1048576: true; the input reads as it did. -/
def execApartUptoRow : OpenClaim := { program := "ytippeihoaapmpaagreat", sum := "941dc80167d24af7d23e554b9e9633192b0b99a2aa2fedc03d3b63e7aedd6905", func := "coxswain/coxswainlaw27.ExecApart", spec := "execApart", unfollowed := true, recurses := true, apart := false, narrowed := true }
def ExecApartUptoSaid : Prop := execApartUptoRow.holds Tryz.pinned (OpenSpec.upto execApartSpec)

end Rows
end Go.Proofs.YtippeihoaapmpaaGreat
