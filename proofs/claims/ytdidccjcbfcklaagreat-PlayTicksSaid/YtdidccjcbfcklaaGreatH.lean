/- What PlayTicks needs: PlayKnown is known, and slices.Insert; what is handed in is opened. Conditions: stated in each theorem. -/
import Derived.Test.YtdidccjcbfcklaaGreatM7
import Derived.Test.YtdidccjcbfcklaaGreatX
import Derived.Test.YtdidccjcbfcklaaGreatJ
import Derived.Test.YtdidccjcbfcklaaGreatRows
namespace Go.Proofs.YtdidccjcbfcklaaGreat
open Go.Abs
set_option maxRecDepth 1000000
set_option linter.unusedSectionVars false
theorem own : ownKnob Tryz.prog.godebug = none := by kernel_rfl
theorem ranA : isTrue (callT Tryz.prog Tryz.tbl Tryz.kx 4000000 (.fn (.func 22) [] []) [] ⟨.e, 0⟩) = true := by kernel_rfl
theorem knB_f : knB false = knV [(22, .bool true)] := by
  funext f l
  unfold knB
  rw [Bool.and_false]
theorem knB_t : knB true = knV [(4, .bool true), (22, .bool true)] := by
  funext f l
  unfold knB
  rw [Bool.and_true]
  show _ = (match Nat.beq f 4 with | true => _ | false => _)
  cases Nat.beq f 4 <;> rfl
theorem known0 [Tok] : KnOk Tryz.prog (@EM ⟨false⟩).kn := ⟨by
  show KnVOk Tryz.prog (knB false)
  rw [knB_f]
  exact knV_ok Tryz.tblOk Tryz.kx_ok (fun x hx => by
    simp only [List.mem_cons, List.not_mem_nil, or_false] at hx
    subst hx
    obtain ⟨S', h⟩ := isTrue_some ranA
    exact ⟨⟨4000000, S', h⟩, fun w => ent_of Tryz.func22 (by kernel_rfl) (by kernel_rfl) _ w⟩), Tryz.kx_ok.x⟩
theorem ranB : isTrue (callT (@EM ⟨false⟩).P (@EM ⟨false⟩).tbl (@EM ⟨false⟩).kn 1 (.fn (.func 22) [] []) [] ⟨.e, 0⟩) = true := by kernel_rfl
theorem known [Tok] : KnOk Tryz.prog (@EM ⟨true⟩).kn := ⟨by
  show KnVOk Tryz.prog (knB true)
  rw [knB_t]
  exact knV_ok Tryz.tblOk known0 (fun x hx => by
    simp only [List.mem_cons, List.not_mem_nil, or_false] at hx
    rcases hx with rfl | rfl
    · obtain ⟨n, hrun⟩ := wpC_true (@playKnown_ok ⟨false⟩ rfl)
      obtain ⟨S', h⟩ := isTrue_some hrun
      exact ⟨⟨n, S', h⟩, fun w => ent_of Tryz.func4 (by kernel_rfl) (by kernel_rfl) _ w⟩
    · obtain ⟨S', h⟩ := isTrue_some ranB
      exact ⟨⟨1, S', h⟩, fun w => ent_of Tryz.func22 (by kernel_rfl) (by kernel_rfl) _ w⟩), Tryz.kx_ok.x⟩
theorem undInts : Tryz.prog.underlying 22 = some (.slice 3) := by kernel_rfl
theorem flatInt : flatT Tryz.prog 2 3 = some [some .i64] := by kernel_rfl
theorem sizeInt : sizeT Tryz.prog 3 = some [some IntKind.i64].length := by kernel_rfl
theorem int_of : ∀ {vs : List Value}, cellsK [some .i64] vs = true → ∃ n : Int, vs = [.int .i64 n]
  | [], h => by cases h
  | [v0], h => by
    simp only [cellsK, Bool.and_true] at h
    cases v0 <;> simp [cellK] at h
    subst h
    exact ⟨_, rfl⟩
  | _ :: _ :: _, h => by simp [cellsK] at h
theorem ints_of : ∀ {L : List (List Value)}, (∀ vs ∈ L, cellsK [some .i64] vs = true) → ∃ l : List Int, L.map scs = ints l
  | [], _ => ⟨[], rfl⟩
  | v :: L, hL => by
    obtain ⟨n, rfl⟩ := int_of (hL v (by simp))
    obtain ⟨l, hl⟩ := ints_of (L := L) (fun vs hvs => hL vs (by simp [hvs]))
    exact ⟨n :: l, by simp [ints, hl, scs]⟩
end Go.Proofs.YtdidccjcbfcklaaGreat
