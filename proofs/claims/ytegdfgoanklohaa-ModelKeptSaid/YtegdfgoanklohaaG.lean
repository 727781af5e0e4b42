/- What the statements of this seat share: the closed calls are known, and slices.Insert; what is handed in is opened. Conditions: stated in each theorem. -/
import Derived.Test.YtegdfgoanklohaaE3
import Derived.Test.YtegdfgoanklohaaX
import Derived.Test.YtegdfgoanklohaaRows
namespace Go.Proofs.Ytegdfgoanklohaa
open Go.Abs
set_option maxRecDepth 1000000
set_option linter.unusedSectionVars false
theorem own : ownKnob Try.prog.godebug = none := by kernel_rfl
theorem laidOut : laidOutB Try.prog = true := by kernel_rfl
theorem ranA : isTrue (callT Try.prog Try.tbl Try.kx 4000000 (.fn (.func 6) [] []) [] ⟨.e, 0⟩) = true := by kernel_rfl
theorem ranB : isTrue (callT Try.prog Try.tbl Try.kx 4000000 (.fn (.func 14) [] []) [] ⟨.e, 0⟩) = true := by kernel_rfl
theorem known [Tok] : KnOk Try.prog EM.kn := ⟨knV_ok Try.tblOk Try.kx_ok (fun x hx => by
  simp only [List.mem_cons, List.not_mem_nil, or_false] at hx
  rcases hx with rfl | rfl
  · obtain ⟨S', h⟩ := isTrue_some ranA
    exact ⟨⟨4000000, S', h⟩, fun w => ent_of Try.func6 (by kernel_rfl) (by kernel_rfl) _ w⟩
  · obtain ⟨S', h⟩ := isTrue_some ranB
    exact ⟨⟨4000000, S', h⟩, fun w => ent_of Try.func14 (by kernel_rfl) (by kernel_rfl) _ w⟩), Try.kx_ok.x⟩
theorem undInt : Try.prog.underlying 3 = some (.int .i64) := by kernel_rfl
theorem undInts : Try.prog.underlying 29 = some (.slice 3) := by kernel_rfl
theorem flatInt : flatT Try.prog 2 3 = some [some .i64] := by kernel_rfl
theorem sizeInt : sizeT Try.prog 3 = some [some IntKind.i64].length := by kernel_rfl
theorem int_of : ∀ {vs : List Value}, cellsK [some .i64] vs = true → ∃ n : Int, vs = [.int .i64 n]
  | [], h => by cases h
  | [v0], h => by
    simp only [cellsK, Bool.and_true] at h
    cases v0 <;> simp [cellK] at h
    subst h
    exact ⟨_, rfl⟩
  | _ :: _ :: _, h => by simp [cellsK] at h
theorem ints_of : ∀ {L : List (List Value)}, (∀ vs ∈ L, cellsK [some .i64] vs = true) → ∃ l : List Int, L.map scs = ints l
  | [], _ => ⟨[], rfl⟩
  | v :: L, hL => by
    obtain ⟨n, rfl⟩ := int_of (hL v (by simp))
    obtain ⟨l, hl⟩ := ints_of (L := L) (fun vs hvs => hL vs (by simp [hvs]))
    exact ⟨n :: l, by simp [ints, hl, scs]⟩
end Go.Proofs.Ytegdfgoanklohaa
