/-
  No cell of these rows narrows 'for every input' (looked for: loops, veiled, ifaces, maps, wideKeys, modest, calm, conditions, laid).
  DERIVED. THE GIVEN ROWS OF THIS SEAT. 6 by the template 'for every input the law returns true; each argument reads behind the call as it read before'; 0 by the template 'total and deterministic' (their statements: YtmbabkepakhkiaaTotals.lean).
  GIVEN WITH THE SEED: the statements are not yours to turn. If you find one false, say at which input.
  Laid BY PROGRAM, IN A SANDBOX (cutbox-rows.mjs): the forced cells as the released guide's own fill.sh prints them over the translation f007d7da7003a144… (all of the seat's roots in one cut). By AI agents, Wed Nov 11 2026. No macro, syntax, notation, axiom, sorry.
-/
import Derived.Test.YtmbabkepakhkiaaChecked
import GoSem.Claim
import GoSem.ClaimJoined
import GoSem.ClaimMapViews
import Derived.JoinedTies
import Derived.KernelRfl
namespace Go.Proofs.Ytmbabkepakhkiaa
/- THE CELL 'sum', in the pinned program and in every row, IS THE sha256 OF THE DUMP (.gsa) THAT YtmbabkepakhkiaaProg.lean LOADS. Nothing in Lean hashes anything: it is a label: what it is worth is what the hold of that sum in a sandbox is worth. -/
noncomputable def Try.pinned : Pinned := { name := "ytmbabkepakhkiaa", sum := "f007d7da7003a144bf1ddf7f463418285e0a6127cbf997318c1f64b2a124ea86", checked := Try.checked }
namespace Rows
def none {H : Type} : Left H := { results := [], args := [] }

/-- 'coxswainlaw05.EventLong': WHATEVER THE INPUT: true; the input reads as it did. -/
def eventLongSpec : ChangeSpec := { name := "eventLong", fn := fun _ => fun
  | [d1, d2] => { results := [.lit (.bool true)], args := [d1, d2] }
  | _ => none }
def eventLongRow : OpenClaim := { program := "ytmbabkepakhkiaa", sum := "f007d7da7003a144bf1ddf7f463418285e0a6127cbf997318c1f64b2a124ea86", func := "coxswain/coxswainlaw05.EventLong", spec := "eventLong", unfollowed := true, recurses := true, apart := false }
def EventLongSaid : Prop := eventLongRow.holds Try.pinned (OpenSpec.ofChange eventLongSpec)

/-- ITS FALSE NEIGHBOUR: 'it returns false'. Refute it at one input. -/
def eventLongWrong : ChangeSpec := { name := "eventLong", fn := fun _ => fun
  | [d1, d2] => { results := [.lit (.bool false)], args := [d1, d2] }
  | _ => none }
def EventLongWrongFalsely : Prop := eventLongRow.holds Try.pinned (OpenSpec.ofChange eventLongWrong)

/-- 'coxswainlaw05.EventCalls': WHATEVER THE INPUT: true; the input reads as it did. -/
def eventCallsSpec : ChangeSpec := { name := "eventCalls", fn := fun _ => fun
  | [d] => { results := [.lit (.bool true)], args := [d] }
  | _ => none }
def eventCallsRow : OpenClaim := { program := "ytmbabkepakhkiaa", sum := "f007d7da7003a144bf1ddf7f463418285e0a6127cbf997318c1f64b2a124ea86", func := "coxswain/coxswainlaw05.EventCalls", spec := "eventCalls", unfollowed := true, recurses := true, apart := false }
def EventCallsSaid : Prop := eventCallsRow.holds Try.pinned (OpenSpec.ofChange eventCallsSpec)

/-- ITS FALSE NEIGHBOUR: 'it returns false'. Refute it at one input. -/
def eventCallsWrong : ChangeSpec := { name := "eventCalls", fn := fun _ => fun
  | [d] => { results := [.lit (.bool false)], args := [d] }
  | _ => none }
def EventCallsWrongFalsely : Prop := eventCallsRow.holds Try.pinned (OpenSpec.ofChange eventCallsWrong)

/-- 'coxswainlaw05.EventParts': WHATEVER THE INPUT: true; the input reads as it did. -/
def eventPartsSpec : ChangeSpec := { name := "eventParts", fn := fun _ => fun
  | [d1, d2] => { results := [.lit (.bool true)], args := [d1, d2] }
  | _ => none }
def eventPartsRow : OpenClaim := { program := "ytmbabkepakhkiaa", sum := "f007d7da7003a144bf1ddf7f463418285e0a6127cbf997318c1f64b2a124ea86", func := "coxswain/coxswainlaw05.EventParts", spec := "eventParts", unfollowed := true, recurses := true, apart := false }
def EventPartsSaid : Prop := eventPartsRow.holds Try.pinned (OpenSpec.ofChange eventPartsSpec)

/-- ITS FALSE NEIGHBOUR: 'it returns false'. Refute it at one input. -/
def eventPartsWrong : ChangeSpec := { name := "eventParts", fn := fun _ => fun
  | [d1, d2] => { results := [.lit (.bool false)], args := [d1, d2] }
  | _ => none }
def EventPartsWrongFalsely : Prop := eventPartsRow.holds Try.pinned (OpenSpec.ofChange eventPartsWrong)

/-- 'coxswainlaw05.EventKnown': WHATEVER THE INPUT: true; the input reads as it did. -/
def eventKnownSpec : ChangeSpec := { name := "eventKnown", fn := fun _ => fun
  | [] => { results := [.lit (.bool true)], args := [] }
  | _ => none }
def eventKnownRow : OpenClaim := { program := "ytmbabkepakhkiaa", sum := "f007d7da7003a144bf1ddf7f463418285e0a6127cbf997318c1f64b2a124ea86", func := "coxswain/coxswainlaw05.EventKnown", spec := "eventKnown", unfollowed := true, recurses := true, apart := false }
def EventKnownSaid : Prop := eventKnownRow.holds Try.pinned (OpenSpec.ofChange eventKnownSpec)

/-- ITS FALSE NEIGHBOUR: 'it returns false'. Refute it at one input. -/
def eventKnownWrong : ChangeSpec := { name := "eventKnown", fn := fun _ => fun
  | [] => { results := [.lit (.bool false)], args := [] }
  | _ => none }
def EventKnownWrongFalsely : Prop := eventKnownRow.holds Try.pinned (OpenSpec.ofChange eventKnownWrong)

/-- 'coxswainlaw05.EventOrder': WHATEVER THE INPUT: true; the input reads as it did. -/
def eventOrderSpec : ChangeSpec := { name := "eventOrder", fn := fun _ => fun
  | [d] => { results := [.lit (.bool true)], args := [d] }
  | _ => none }
def eventOrderRow : OpenClaim := { program := "ytmbabkepakhkiaa", sum := "f007d7da7003a144bf1ddf7f463418285e0a6127cbf997318c1f64b2a124ea86", func := "coxswain/coxswainlaw05.EventOrder", spec := "eventOrder", unfollowed := true, recurses := true, apart := false }
def EventOrderSaid : Prop := eventOrderRow.holds Try.pinned (OpenSpec.ofChange eventOrderSpec)

/-- ITS FALSE NEIGHBOUR: 'it returns false'. Refute it at one input. -/
def eventOrderWrong : ChangeSpec := { name := "eventOrder", fn := fun _ => fun
  | [d] => { results := [.lit (.bool false)], args := [d] }
  | _ => none }
def EventOrderWrongFalsely : Prop := eventOrderRow.holds Try.pinned (OpenSpec.ofChange eventOrderWrong)

/-- 'coxswainlaw05.EventLeft': WHATEVER THE INPUT: true; the input reads as it did. -/
def eventLeftSpec : ChangeSpec := { name := "eventLeft", fn := fun _ => fun
  | [d1, d2, d3] => { results := [.lit (.bool true)], args := [d1, d2, d3] }
  | _ => none }
def eventLeftRow : OpenClaim := { program := "ytmbabkepakhkiaa", sum := "f007d7da7003a144bf1ddf7f463418285e0a6127cbf997318c1f64b2a124ea86", func := "coxswain/coxswainlaw05.EventLeft", spec := "eventLeft", unfollowed := true, recurses := true, apart := false }
def EventLeftSaid : Prop := eventLeftRow.holds Try.pinned (OpenSpec.ofChange eventLeftSpec)

/-- ITS FALSE NEIGHBOUR: 'it returns false'. Refute it at one input. -/
def eventLeftWrong : ChangeSpec := { name := "eventLeft", fn := fun _ => fun
  | [d1, d2, d3] => { results := [.lit (.bool false)], args := [d1, d2, d3] }
  | _ => none }
def EventLeftWrongFalsely : Prop := eventLeftRow.holds Try.pinned (OpenSpec.ofChange eventLeftWrong)

/- THE SECOND FORM. 'bulk': how many values and letters a reading holds, each counted each time it is reached (what is shared counts as often as it is met; a slice's spare places count too). A statement '..UptoSaid' is the law's where the arguments, and the package variables that the reading takes, are together of bulk at most 1048576: NARROWER than '..Said'. Prove '..Said' where nothing that the law and all that it calls make is longer than what came in: it says more and counts as full. Else prove '..UptoSaid'. A law counts once. -/
mutual
def uptoBulk {H : Type} : DataW H → Nat
  | .lit (.string bytes) => bytes.length + 1
  | .lit _ => 1
  | .nil => 1
  | .ptr d => uptoBulk d + 1
  | .slice elems spare => uptoBulkAll elems + uptoBulkAll spare + 1
  | .agg parts => uptoBulkAll parts + 1
  | .iface _ d => uptoBulk d + 1
  | .map entries => uptoBulkEntries entries + 1
  | .held _ => 1
def uptoBulkAll {H : Type} : List (DataW H) → Nat
  | [] => 0
  | d :: r => uptoBulk d + uptoBulkAll r
def uptoBulkEntries {H : Type} : List (Lit × DataW H) → Nat
  | [] => 0
  | x :: r => uptoBulkEntry x + uptoBulkEntries r
def uptoBulkEntry {H : Type} : Lit × DataW H → Nat
  | (.string bytes, d) => bytes.length + uptoBulk d + 1
  | (_, d) => uptoBulk d + 1
 end
def uptoSmall : (H : Type) → List (DataW H) → Bool := fun _ ds => decide (uptoBulkAll ds ≤ 1048576)
def OpenSpec.upto (s : _root_.Go.ChangeSpec) : _root_.Go.OpenSpec := { _root_.Go.OpenSpec.ofChange s with cond := some uptoSmall }

/-- 'coxswainlaw05.EventLong', WHERE WHAT IT READS IS OF BULK AT MOST 1048576: true; the input reads as it did. -/
def eventLongUptoRow : OpenClaim := { program := "ytmbabkepakhkiaa", sum := "f007d7da7003a144bf1ddf7f463418285e0a6127cbf997318c1f64b2a124ea86", func := "coxswain/coxswainlaw05.EventLong", spec := "eventLong", unfollowed := true, recurses := true, apart := false, narrowed := true }
def EventLongUptoSaid : Prop := eventLongUptoRow.holds Try.pinned (OpenSpec.upto eventLongSpec)

/-- 'coxswainlaw05.EventCalls', WHERE WHAT IT READS IS OF BULK AT MOST 1048576: true; the input reads as it did. -/
def eventCallsUptoRow : OpenClaim := { program := "ytmbabkepakhkiaa", sum := "f007d7da7003a144bf1ddf7f463418285e0a6127cbf997318c1f64b2a124ea86", func := "coxswain/coxswainlaw05.EventCalls", spec := "eventCalls", unfollowed := true, recurses := true, apart := false, narrowed := true }
def EventCallsUptoSaid : Prop := eventCallsUptoRow.holds Try.pinned (OpenSpec.upto eventCallsSpec)

/-- 'coxswainlaw05.EventParts', WHERE WHAT IT READS IS OF BULK AT MOST 1048576: true; the input reads as it did. -/
def eventPartsUptoRow : OpenClaim := { program := "ytmbabkepakhkiaa", sum := "f007d7da7003a144bf1ddf7f463418285e0a6127cbf997318c1f64b2a124ea86", func := "coxswain/coxswainlaw05.EventParts", spec := "eventParts", unfollowed := true, recurses := true, apart := false, narrowed := true }
def EventPartsUptoSaid : Prop := eventPartsUptoRow.holds Try.pinned (OpenSpec.upto eventPartsSpec)

/-- 'coxswainlaw05.EventKnown', WHERE WHAT IT READS IS OF BULK AT MOST 1048576: true; the input reads as it did. -/
def eventKnownUptoRow : OpenClaim := { program := "ytmbabkepakhkiaa", sum := "f007d7da7003a144bf1ddf7f463418285e0a6127cbf997318c1f64b2a124ea86", func := "coxswain/coxswainlaw05.EventKnown", spec := "eventKnown", unfollowed := true, recurses := true, apart := false, narrowed := true }
def EventKnownUptoSaid : Prop := eventKnownUptoRow.holds Try.pinned (OpenSpec.upto eventKnownSpec)

/-- 'coxswainlaw05.EventOrder', WHERE WHAT IT READS IS OF BULK AT MOST 1048576: true; the input reads as it did. -/
def eventOrderUptoRow : OpenClaim := { program := "ytmbabkepakhkiaa", sum := "f007d7da7003a144bf1ddf7f463418285e0a6127cbf997318c1f64b2a124ea86", func := "coxswain/coxswainlaw05.EventOrder", spec := "eventOrder", unfollowed := true, recurses := true, apart := false, narrowed := true }
def EventOrderUptoSaid : Prop := eventOrderUptoRow.holds Try.pinned (OpenSpec.upto eventOrderSpec)

/-- 'coxswainlaw05.EventLeft', WHERE WHAT IT READS IS OF BULK AT MOST 1048576: true; the input reads as it did. -/
def eventLeftUptoRow : OpenClaim := { program := "ytmbabkepakhkiaa", sum := "f007d7da7003a144bf1ddf7f463418285e0a6127cbf997318c1f64b2a124ea86", func := "coxswain/coxswainlaw05.EventLeft", spec := "eventLeft", unfollowed := true, recurses := true, apart := false, narrowed := true }
def EventLeftUptoSaid : Prop := eventLeftUptoRow.holds Try.pinned (OpenSpec.upto eventLeftSpec)

end Rows
end Go.Proofs.Ytmbabkepakhkiaa
