/-
  No cell of these rows narrows 'for every input' (looked for: loops, veiled, ifaces, maps, wideKeys, modest, calm, conditions, laid).
  DERIVED. THE GIVEN ROWS OF THIS SEAT. 7 by the template 'for every input the law returns true; each argument reads behind the call as it read before'; 0 by the template 'total and deterministic' (their statements: YtjcfblbdljjhjaaTotals.lean).
  GIVEN WITH THE SEED: the statements are not yours to turn. If you find one false, say at which input.
  Laid BY PROGRAM, IN A SANDBOX (cutbox-rows.mjs): the forced cells as the released guide's own fill.sh prints them over the translation 2b2f1bce9d144042… (all of the seat's roots in one cut). By AI agents, Wed Nov 11 2026. No macro, syntax, notation, axiom, sorry.
-/
import Derived.Test.YtjcfblbdljjhjaaChecked
import GoSem.Claim
import GoSem.ClaimJoined
import GoSem.ClaimMapViews
import Derived.JoinedTies
import Derived.KernelRfl
namespace Go.Proofs.Ytjcfblbdljjhjaa
/- THE CELL 'sum', in the pinned program and in every row, IS THE sha256 OF THE DUMP (.gsa) THAT YtjcfblbdljjhjaaProg.lean LOADS. Nothing in Lean hashes anything: it is a label: what it is worth is what the hold of that sum in a sandbox is worth. -/
noncomputable def Try.pinned : Pinned := { name := "ytjcfblbdljjhjaa", sum := "2b2f1bce9d144042eb5bbae79d07c44201afc8e47e87440d08497aca6061ea9d", checked := Try.checked }
namespace Rows
def none {H : Type} : Left H := { results := [], args := [] }

/-- 'coxswainlaw21.TaskCheck': WHATEVER THE INPUT: true; the input reads as it did. -/
def taskCheckSpec : ChangeSpec := { name := "taskCheck", fn := fun _ => fun
  | [d] => { results := [.lit (.bool true)], args := [d] }
  | _ => none }
def taskCheckRow : OpenClaim := { program := "ytjcfblbdljjhjaa", sum := "2b2f1bce9d144042eb5bbae79d07c44201afc8e47e87440d08497aca6061ea9d", func := "coxswain/coxswainlaw21.TaskCheck", spec := "taskCheck", unfollowed := true, recurses := true, apart := false }
def TaskCheckSaid : Prop := taskCheckRow.holds Try.pinned (OpenSpec.ofChange taskCheckSpec)

/-- ITS FALSE NEIGHBOUR: 'it returns false'. Refute it at one input. -/
def taskCheckWrong : ChangeSpec := { name := "taskCheck", fn := fun _ => fun
  | [d] => { results := [.lit (.bool false)], args := [d] }
  | _ => none }
def TaskCheckWrongFalsely : Prop := taskCheckRow.holds Try.pinned (OpenSpec.ofChange taskCheckWrong)

/-- 'coxswainlaw21.TaskTimes': WHATEVER THE INPUT: true; the input reads as it did. -/
def taskTimesSpec : ChangeSpec := { name := "taskTimes", fn := fun _ => fun
  | [d1, d2, d3, d4, d5] => { results := [.lit (.bool true)], args := [d1, d2, d3, d4, d5] }
  | _ => none }
def taskTimesRow : OpenClaim := { program := "ytjcfblbdljjhjaa", sum := "2b2f1bce9d144042eb5bbae79d07c44201afc8e47e87440d08497aca6061ea9d", func := "coxswain/coxswainlaw21.TaskTimes", spec := "taskTimes", unfollowed := true, recurses := true, apart := false }
def TaskTimesSaid : Prop := taskTimesRow.holds Try.pinned (OpenSpec.ofChange taskTimesSpec)

/-- ITS FALSE NEIGHBOUR: 'it returns false'. Refute it at one input. -/
def taskTimesWrong : ChangeSpec := { name := "taskTimes", fn := fun _ => fun
  | [d1, d2, d3, d4, d5] => { results := [.lit (.bool false)], args := [d1, d2, d3, d4, d5] }
  | _ => none }
def TaskTimesWrongFalsely : Prop := taskTimesRow.holds Try.pinned (OpenSpec.ofChange taskTimesWrong)

/-- 'coxswainlaw21.TaskTables': WHATEVER THE INPUT: true; the input reads as it did. -/
def taskTablesSpec : ChangeSpec := { name := "taskTables", fn := fun _ => fun
  | [d1, d2, d3, d4, d5, d6, d7] => { results := [.lit (.bool true)], args := [d1, d2, d3, d4, d5, d6, d7] }
  | _ => none }
def taskTablesRow : OpenClaim := { program := "ytjcfblbdljjhjaa", sum := "2b2f1bce9d144042eb5bbae79d07c44201afc8e47e87440d08497aca6061ea9d", func := "coxswain/coxswainlaw21.TaskTables", spec := "taskTables", unfollowed := true, recurses := true, apart := false }
def TaskTablesSaid : Prop := taskTablesRow.holds Try.pinned (OpenSpec.ofChange taskTablesSpec)

/-- ITS FALSE NEIGHBOUR: 'it returns false'. Refute it at one input. -/
def taskTablesWrong : ChangeSpec := { name := "taskTables", fn := fun _ => fun
  | [d1, d2, d3, d4, d5, d6, d7] => { results := [.lit (.bool false)], args := [d1, d2, d3, d4, d5, d6, d7] }
  | _ => none }
def TaskTablesWrongFalsely : Prop := taskTablesRow.holds Try.pinned (OpenSpec.ofChange taskTablesWrong)

/-- 'coxswainlaw21.TaskKnown': WHATEVER THE INPUT: true; the input reads as it did. -/
def taskKnownSpec : ChangeSpec := { name := "taskKnown", fn := fun _ => fun
  | [] => { results := [.lit (.bool true)], args := [] }
  | _ => none }
def taskKnownRow : OpenClaim := { program := "ytjcfblbdljjhjaa", sum := "2b2f1bce9d144042eb5bbae79d07c44201afc8e47e87440d08497aca6061ea9d", func := "coxswain/coxswainlaw21.TaskKnown", spec := "taskKnown", unfollowed := true, recurses := true, apart := false }
def TaskKnownSaid : Prop := taskKnownRow.holds Try.pinned (OpenSpec.ofChange taskKnownSpec)

/-- ITS FALSE NEIGHBOUR: 'it returns false'. Refute it at one input. -/
def taskKnownWrong : ChangeSpec := { name := "taskKnown", fn := fun _ => fun
  | [] => { results := [.lit (.bool false)], args := [] }
  | _ => none }
def TaskKnownWrongFalsely : Prop := taskKnownRow.holds Try.pinned (OpenSpec.ofChange taskKnownWrong)

/-- 'coxswainlaw21.TaskApart': WHATEVER THE INPUT: true; the input reads as it did. -/
def taskApartSpec : ChangeSpec := { name := "taskApart", fn := fun _ => fun
  | [d1, d2, d3] => { results := [.lit (.bool true)], args := [d1, d2, d3] }
  | _ => none }
def taskApartRow : OpenClaim := { program := "ytjcfblbdljjhjaa", sum := "2b2f1bce9d144042eb5bbae79d07c44201afc8e47e87440d08497aca6061ea9d", func := "coxswain/coxswainlaw21.TaskApart", spec := "taskApart", unfollowed := true, recurses := true, apart := false }
def TaskApartSaid : Prop := taskApartRow.holds Try.pinned (OpenSpec.ofChange taskApartSpec)

/-- ITS FALSE NEIGHBOUR: 'it returns false'. Refute it at one input. -/
def taskApartWrong : ChangeSpec := { name := "taskApart", fn := fun _ => fun
  | [d1, d2, d3] => { results := [.lit (.bool false)], args := [d1, d2, d3] }
  | _ => none }
def TaskApartWrongFalsely : Prop := taskApartRow.holds Try.pinned (OpenSpec.ofChange taskApartWrong)

/-- 'coxswainlaw21.TaskSums': WHATEVER THE INPUT: true; the input reads as it did. -/
def taskSumsSpec : ChangeSpec := { name := "taskSums", fn := fun _ => fun
  | [d1, d2, d3, d4, d5] => { results := [.lit (.bool true)], args := [d1, d2, d3, d4, d5] }
  | _ => none }
def taskSumsRow : OpenClaim := { program := "ytjcfblbdljjhjaa", sum := "2b2f1bce9d144042eb5bbae79d07c44201afc8e47e87440d08497aca6061ea9d", func := "coxswain/coxswainlaw21.TaskSums", spec := "taskSums", unfollowed := true, recurses := true, apart := false }
def TaskSumsSaid : Prop := taskSumsRow.holds Try.pinned (OpenSpec.ofChange taskSumsSpec)

/-- ITS FALSE NEIGHBOUR: 'it returns false'. Refute it at one input. -/
def taskSumsWrong : ChangeSpec := { name := "taskSums", fn := fun _ => fun
  | [d1, d2, d3, d4, d5] => { results := [.lit (.bool false)], args := [d1, d2, d3, d4, d5] }
  | _ => none }
def TaskSumsWrongFalsely : Prop := taskSumsRow.holds Try.pinned (OpenSpec.ofChange taskSumsWrong)

/-- 'coxswainlaw21.TaskSooner': WHATEVER THE INPUT: true; the input reads as it did. -/
def taskSoonerSpec : ChangeSpec := { name := "taskSooner", fn := fun _ => fun
  | [d1, d2, d3, d4, d5, d6, d7] => { results := [.lit (.bool true)], args := [d1, d2, d3, d4, d5, d6, d7] }
  | _ => none }
def taskSoonerRow : OpenClaim := { program := "ytjcfblbdljjhjaa", sum := "2b2f1bce9d144042eb5bbae79d07c44201afc8e47e87440d08497aca6061ea9d", func := "coxswain/coxswainlaw21.TaskSooner", spec := "taskSooner", unfollowed := true, recurses := true, apart := false }
def TaskSoonerSaid : Prop := taskSoonerRow.holds Try.pinned (OpenSpec.ofChange taskSoonerSpec)

/-- ITS FALSE NEIGHBOUR: 'it returns false'. Refute it at one input. -/
def taskSoonerWrong : ChangeSpec := { name := "taskSooner", fn := fun _ => fun
  | [d1, d2, d3, d4, d5, d6, d7] => { results := [.lit (.bool false)], args := [d1, d2, d3, d4, d5, d6, d7] }
  | _ => none }
def TaskSoonerWrongFalsely : Prop := taskSoonerRow.holds Try.pinned (OpenSpec.ofChange taskSoonerWrong)

/- THE SECOND FORM. 'bulk': how many values and letters a reading holds, each counted each time it is reached (what is shared counts as often as it is met; a slice's spare places count too). A statement '..UptoSaid' is the law's where the arguments, and the package variables that the reading takes, are together of bulk at most 1048576: NARROWER than '..Said'. Prove '..Said' where nothing that the law and all that it calls make is longer than what came in: it says more and counts as full. Else prove '..UptoSaid'. A law counts once. -/
mutual
def uptoBulk {H : Type} : DataW H → Nat
  | .lit (.string bytes) => bytes.length + 1
  | .lit _ => 1
  | .nil => 1
  | .ptr d => uptoBulk d + 1
  | .slice elems spare => uptoBulkAll elems + uptoBulkAll spare + 1
  | .agg parts => uptoBulkAll parts + 1
  | .iface _ d => uptoBulk d + 1
  | .map entries => uptoBulkEntries entries + 1
  | .held _ => 1
def uptoBulkAll {H : Type} : List (DataW H) → Nat
  | [] => 0
  | d :: r => uptoBulk d + uptoBulkAll r
def uptoBulkEntries {H : Type} : List (Lit × DataW H) → Nat
  | [] => 0
  | x :: r => uptoBulkEntry x + uptoBulkEntries r
def uptoBulkEntry {H : Type} : Lit × DataW H → Nat
  | (.string bytes, d) => bytes.length + uptoBulk d + 1
  | (_, d) => uptoBulk d + 1
 end
def uptoSmall : (H : Type) → List (DataW H) → Bool := fun _ ds => decide (uptoBulkAll ds ≤ 1048576)
def OpenSpec.upto (s : _root_.Go.ChangeSpec) : _root_.Go.OpenSpec := { _root_.Go.OpenSpec.ofChange s with cond := some uptoSmall }

/-- 'coxswainlaw21.TaskCheck', WHERE WHAT IT READS IS OF BULK AT MOST 1048576: true; the input reads as it did. -/
def taskCheckUptoRow : OpenClaim := { program := "ytjcfblbdljjhjaa", sum := "2b2f1bce9d144042eb5bbae79d07c44201afc8e47e87440d08497aca6061ea9d", func := "coxswain/coxswainlaw21.TaskCheck", spec := "taskCheck", unfollowed := true, recurses := true, apart := false, narrowed := true }
def TaskCheckUptoSaid : Prop := taskCheckUptoRow.holds Try.pinned (OpenSpec.upto taskCheckSpec)

/-- 'coxswainlaw21.TaskTimes', WHERE WHAT IT READS IS OF BULK AT MOST 1048576: true; the input reads as it did. -/
def taskTimesUptoRow : OpenClaim := { program := "ytjcfblbdljjhjaa", sum := "2b2f1bce9d144042eb5bbae79d07c44201afc8e47e87440d08497aca6061ea9d", func := "coxswain/coxswainlaw21.TaskTimes", spec := "taskTimes", unfollowed := true, recurses := true, apart := false, narrowed := true }
def TaskTimesUptoSaid : Prop := taskTimesUptoRow.holds Try.pinned (OpenSpec.upto taskTimesSpec)

/-- 'coxswainlaw21.TaskTables', WHERE WHAT IT READS IS OF BULK AT MOST 1048576: true; the input reads as it did. -/
def taskTablesUptoRow : OpenClaim := { program := "ytjcfblbdljjhjaa", sum := "2b2f1bce9d144042eb5bbae79d07c44201afc8e47e87440d08497aca6061ea9d", func := "coxswain/coxswainlaw21.TaskTables", spec := "taskTables", unfollowed := true, recurses := true, apart := false, narrowed := true }
def TaskTablesUptoSaid : Prop := taskTablesUptoRow.holds Try.pinned (OpenSpec.upto taskTablesSpec)

/-- 'coxswainlaw21.TaskKnown', WHERE WHAT IT READS IS OF BULK AT MOST 1048576: true; the input reads as it did. -/
def taskKnownUptoRow : OpenClaim := { program := "ytjcfblbdljjhjaa", sum := "2b2f1bce9d144042eb5bbae79d07c44201afc8e47e87440d08497aca6061ea9d", func := "coxswain/coxswainlaw21.TaskKnown", spec := "taskKnown", unfollowed := true, recurses := true, apart := false, narrowed := true }
def TaskKnownUptoSaid : Prop := taskKnownUptoRow.holds Try.pinned (OpenSpec.upto taskKnownSpec)

/-- 'coxswainlaw21.TaskApart', WHERE WHAT IT READS IS OF BULK AT MOST 1048576: true; the input reads as it did. -/
def taskApartUptoRow : OpenClaim := { program := "ytjcfblbdljjhjaa", sum := "2b2f1bce9d144042eb5bbae79d07c44201afc8e47e87440d08497aca6061ea9d", func := "coxswain/coxswainlaw21.TaskApart", spec := "taskApart", unfollowed := true, recurses := true, apart := false, narrowed := true }
def TaskApartUptoSaid : Prop := taskApartUptoRow.holds Try.pinned (OpenSpec.upto taskApartSpec)

/-- 'coxswainlaw21.TaskSums', WHERE WHAT IT READS IS OF BULK AT MOST 1048576: true; the input reads as it did. -/
def taskSumsUptoRow : OpenClaim := { program := "ytjcfblbdljjhjaa", sum := "2b2f1bce9d144042eb5bbae79d07c44201afc8e47e87440d08497aca6061ea9d", func := "coxswain/coxswainlaw21.TaskSums", spec := "taskSums", unfollowed := true, recurses := true, apart := false, narrowed := true }
def TaskSumsUptoSaid : Prop := taskSumsUptoRow.holds Try.pinned (OpenSpec.upto taskSumsSpec)

/-- 'coxswainlaw21.TaskSooner', WHERE WHAT IT READS IS OF BULK AT MOST 1048576: true; the input reads as it did. -/
def taskSoonerUptoRow : OpenClaim := { program := "ytjcfblbdljjhjaa", sum := "2b2f1bce9d144042eb5bbae79d07c44201afc8e47e87440d08497aca6061ea9d", func := "coxswain/coxswainlaw21.TaskSooner", spec := "taskSooner", unfollowed := true, recurses := true, apart := false, narrowed := true }
def TaskSoonerUptoSaid : Prop := taskSoonerUptoRow.holds Try.pinned (OpenSpec.upto taskSoonerSpec)

end Rows
end Go.Proofs.Ytjcfblbdljjhjaa
