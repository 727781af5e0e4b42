/-
  No cell of these rows narrows 'for every input' (looked for: loops, veiled, ifaces, maps, wideKeys, modest, calm, conditions, laid).
  DERIVED. THE GIVEN ROWS OF THIS SEAT. 3 by the template 'for every input the law returns true; each argument reads behind the call as it read before'; 0 by the template 'total and deterministic' (their statements: YtegdfgoanklohaaTotals.lean).
  GIVEN WITH THE SEED: the statements are not yours to turn. If you find one false, say at which input.
  Laid BY PROGRAM, IN A SANDBOX (cutbox-rows.mjs): the forced cells as the released guide's own fill.sh prints them over the translation 5a1edac4f0d932c3… (all of the seat's roots in one cut). By AI agents, Wed Nov 11 2026. No macro, syntax, notation, axiom, sorry.
-/
import Derived.Test.YtegdfgoanklohaaChecked
import GoSem.Claim
import GoSem.ClaimJoined
import GoSem.ClaimMapViews
import Derived.JoinedTies
import Derived.KernelRfl
namespace Go.Proofs.Ytegdfgoanklohaa
/- THE CELL 'sum', in the pinned program and in every row, IS THE sha256 OF THE DUMP (.gsa) THAT YtegdfgoanklohaaProg.lean LOADS. Nothing in Lean hashes anything: it is a label: what it is worth is what the hold of that sum in a sandbox is worth. -/
noncomputable def Try.pinned : Pinned := { name := "ytegdfgoanklohaa", sum := "5a1edac4f0d932c3dfec55d6192bf95536858f50b56d248164775f0da3968956", checked := Try.checked }
namespace Rows
def none {H : Type} : Left H := { results := [], args := [] }

/-- 'coxswainlaw28.ModelShould': WHATEVER THE INPUT: true; the input reads as it did. -/
def modelShouldSpec : ChangeSpec := { name := "modelShould", fn := fun _ => fun
  | [d1, d2] => { results := [.lit (.bool true)], args := [d1, d2] }
  | _ => none }
def modelShouldRow : OpenClaim := { program := "ytegdfgoanklohaa", sum := "5a1edac4f0d932c3dfec55d6192bf95536858f50b56d248164775f0da3968956", func := "coxswain/coxswainlaw28.ModelShould", spec := "modelShould", inPlace := ["slices.overlaps[int]"], unfollowed := true, recurses := true, apart := false }
def ModelShouldSaid : Prop := modelShouldRow.holds Try.pinned (OpenSpec.ofChange modelShouldSpec)

/-- ITS FALSE NEIGHBOUR: 'it returns false'. Refute it at one input. -/
def modelShouldWrong : ChangeSpec := { name := "modelShould", fn := fun _ => fun
  | [d1, d2] => { results := [.lit (.bool false)], args := [d1, d2] }
  | _ => none }
def ModelShouldWrongFalsely : Prop := modelShouldRow.holds Try.pinned (OpenSpec.ofChange modelShouldWrong)

/-- 'coxswainlaw28.ModelRight': WHATEVER THE INPUT: true; the input reads as it did. -/
def modelRightSpec : ChangeSpec := { name := "modelRight", fn := fun _ => fun
  | [d1, d2] => { results := [.lit (.bool true)], args := [d1, d2] }
  | _ => none }
def modelRightRow : OpenClaim := { program := "ytegdfgoanklohaa", sum := "5a1edac4f0d932c3dfec55d6192bf95536858f50b56d248164775f0da3968956", func := "coxswain/coxswainlaw28.ModelRight", spec := "modelRight", inPlace := ["slices.overlaps[int]"], unfollowed := true, recurses := true, apart := false }
def ModelRightSaid : Prop := modelRightRow.holds Try.pinned (OpenSpec.ofChange modelRightSpec)

/-- ITS FALSE NEIGHBOUR: 'it returns false'. Refute it at one input. -/
def modelRightWrong : ChangeSpec := { name := "modelRight", fn := fun _ => fun
  | [d1, d2] => { results := [.lit (.bool false)], args := [d1, d2] }
  | _ => none }
def ModelRightWrongFalsely : Prop := modelRightRow.holds Try.pinned (OpenSpec.ofChange modelRightWrong)

/-- 'coxswainlaw28.ModelKept': WHATEVER THE INPUT: true; the input reads as it did. -/
def modelKeptSpec : ChangeSpec := { name := "modelKept", fn := fun _ => fun
  | [d1, d2] => { results := [.lit (.bool true)], args := [d1, d2] }
  | _ => none }
def modelKeptRow : OpenClaim := { program := "ytegdfgoanklohaa", sum := "5a1edac4f0d932c3dfec55d6192bf95536858f50b56d248164775f0da3968956", func := "coxswain/coxswainlaw28.ModelKept", spec := "modelKept", inPlace := ["slices.overlaps[int]"], unfollowed := true, recurses := true, apart := false }
def ModelKeptSaid : Prop := modelKeptRow.holds Try.pinned (OpenSpec.ofChange modelKeptSpec)

/-- ITS FALSE NEIGHBOUR: 'it returns false'. Refute it at one input. -/
def modelKeptWrong : ChangeSpec := { name := "modelKept", fn := fun _ => fun
  | [d1, d2] => { results := [.lit (.bool false)], args := [d1, d2] }
  | _ => none }
def ModelKeptWrongFalsely : Prop := modelKeptRow.holds Try.pinned (OpenSpec.ofChange modelKeptWrong)

/- THE SECOND FORM. 'bulk': how many values and letters a reading holds, each counted each time it is reached (what is shared counts as often as it is met; a slice's spare places count too). A statement '..UptoSaid' is the law's where the arguments, and the package variables that the reading takes, are together of bulk at most 1048576: NARROWER than '..Said'. Prove '..Said' where nothing that the law and all that it calls make is longer than what came in: it says more and counts as full. Else prove '..UptoSaid'. A law counts once. -/
mutual
def uptoBulk {H : Type} : DataW H → Nat
  | .lit (.string bytes) => bytes.length + 1
  | .lit _ => 1
  | .nil => 1
  | .ptr d => uptoBulk d + 1
  | .slice elems spare => uptoBulkAll elems + uptoBulkAll spare + 1
  | .agg parts => uptoBulkAll parts + 1
  | .iface _ d => uptoBulk d + 1
  | .map entries => uptoBulkEntries entries + 1
  | .held _ => 1
def uptoBulkAll {H : Type} : List (DataW H) → Nat
  | [] => 0
  | d :: r => uptoBulk d + uptoBulkAll r
def uptoBulkEntries {H : Type} : List (Lit × DataW H) → Nat
  | [] => 0
  | x :: r => uptoBulkEntry x + uptoBulkEntries r
def uptoBulkEntry {H : Type} : Lit × DataW H → Nat
  | (.string bytes, d) => bytes.length + uptoBulk d + 1
  | (_, d) => uptoBulk d + 1
 end
def uptoSmall : (H : Type) → List (DataW H) → Bool := fun _ ds => decide (uptoBulkAll ds ≤ 1048576)
def OpenSpec.upto (s : _root_.Go.ChangeSpec) : _root_.Go.OpenSpec := { _root_.Go.OpenSpec.ofChange s with cond := some uptoSmall }

/-- 'coxswainlaw28.ModelShould', WHERE WHAT IT READS IS OF BULK AT MOST 1048576: true; the input reads as it did. -/
def modelShouldUptoRow : OpenClaim := { program := "ytegdfgoanklohaa", sum := "5a1edac4f0d932c3dfec55d6192bf95536858f50b56d248164775f0da3968956", func := "coxswain/coxswainlaw28.ModelShould", spec := "modelShould", inPlace := ["slices.overlaps[int]"], unfollowed := true, recurses := true, apart := false, narrowed := true }
def ModelShouldUptoSaid : Prop := modelShouldUptoRow.holds Try.pinned (OpenSpec.upto modelShouldSpec)

/-- 'coxswainlaw28.ModelRight', WHERE WHAT IT READS IS OF BULK AT MOST 1048576: true; the input reads as it did. -/
def modelRightUptoRow : OpenClaim := { program := "ytegdfgoanklohaa", sum := "5a1edac4f0d932c3dfec55d6192bf95536858f50b56d248164775f0da3968956", func := "coxswain/coxswainlaw28.ModelRight", spec := "modelRight", inPlace := ["slices.overlaps[int]"], unfollowed := true, recurses := true, apart := false, narrowed := true }
def ModelRightUptoSaid : Prop := modelRightUptoRow.holds Try.pinned (OpenSpec.upto modelRightSpec)

/-- 'coxswainlaw28.ModelKept', WHERE WHAT IT READS IS OF BULK AT MOST 1048576: true; the input reads as it did. -/
def modelKeptUptoRow : OpenClaim := { program := "ytegdfgoanklohaa", sum := "5a1edac4f0d932c3dfec55d6192bf95536858f50b56d248164775f0da3968956", func := "coxswain/coxswainlaw28.ModelKept", spec := "modelKept", inPlace := ["slices.overlaps[int]"], unfollowed := true, recurses := true, apart := false, narrowed := true }
def ModelKeptUptoSaid : Prop := modelKeptUptoRow.holds Try.pinned (OpenSpec.upto modelKeptSpec)

end Rows
end Go.Proofs.Ytegdfgoanklohaa
