/- What the statements of this seat share: the closed calls are known, a table is read. Conditions: stated in each theorem. -/
import Derived.Test.YtjcfblbdljjhjaaE0
import Derived.Test.YtjcfblbdljjhjaaRows
namespace Go.Proofs.Ytjcfblbdljjhjaa
open Go.Abs
set_option maxRecDepth 1000000
theorem own : ownKnob Try.prog.godebug = none := by kernel_rfl
theorem laidOut : laidOutB Try.prog = true := by kernel_rfl
theorem ran10 : isTrue (callT Try.prog Try.tbl noKn 100000 (.fn (.func 10) [] []) [] ⟨.e, 0⟩) = true := by kernel_rfl
theorem ran6 : isTrue (callT Try.prog Try.tbl noKn 100000 (.fn (.func 6) [] []) [] ⟨.e, 0⟩) = true := by kernel_rfl
theorem known : KnOk Try.prog EM.kn := knOf_ok Try.tblOk (fun x hx => by
  simp only [List.mem_cons, List.not_mem_nil, or_false] at hx
  rcases hx with rfl | rfl
  · obtain ⟨S', h⟩ := isTrue_some ran10
    exact ⟨⟨100000, S', h⟩, fun w => ent_of Try.func10 (by kernel_rfl) (by kernel_rfl) _ w⟩
  · obtain ⟨S', h⟩ := isTrue_some ran6
    exact ⟨⟨100000, S', h⟩, fun w => ent_of Try.func6 (by kernel_rfl) (by kernel_rfl) _ w⟩)
theorem tk_of : ∀ {vs : List Value}, cellsK ksT vs = true → ∃ x : Tk, vs = x.vs
  | [], h => by cases h
  | [_], h => by simp [ksT, cellsK] at h
  | [_, _], h => by simp [ksT, cellsK] at h
  | [_, _, _], h => by simp [ksT, cellsK] at h
  | [v0, v1, v2, v3], h => by
    simp only [ksT, cellsK, Bool.and_eq_true, Bool.and_true] at h
    obtain ⟨h0, h1, h2, h3⟩ := h
    cases v0 <;> simp [cellK] at h0
    cases v1 <;> simp [cellK] at h1
    cases v2 <;> simp [cellK] at h2
    cases v3 <;> simp [cellK] at h3
    subst h0 h1 h2 h3
    exact ⟨⟨_, _, _, _⟩, rfl⟩
  | _ :: _ :: _ :: _ :: _ :: _, h => by simp [ksT, cellsK] at h
theorem tks_of : ∀ {L : List (List Value)}, (∀ vs ∈ L, cellsK ksT vs = true) → ∃ l : List Tk, L = l.map Tk.vs
  | [], _ => ⟨[], rfl⟩
  | v :: L, hL => by
    obtain ⟨x, rfl⟩ := tk_of (hL v (by simp))
    obtain ⟨h, rfl⟩ := tks_of (L := L) (fun vs hvs => hL vs (by simp [hvs]))
    exact ⟨x :: h, rfl⟩
theorem und22 : Try.prog.underlying 22 = some (.slice 28) := by kernel_rfl
theorem und3 : Try.prog.underlying 3 = some (.int .i64) := by kernel_rfl
theorem sizeT28 : sizeT Try.prog 28 = some ksT.length := by kernel_rfl
end Go.Proofs.Ytjcfblbdljjhjaa
