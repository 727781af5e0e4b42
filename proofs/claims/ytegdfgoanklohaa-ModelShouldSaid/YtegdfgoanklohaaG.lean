/- What the statements of this seat share: awake is known, what is handed in is opened. Conditions: stated in each theorem. -/
import Derived.Test.YtegdfgoanklohaaE1
import Derived.Test.YtegdfgoanklohaaRows
namespace Go.Proofs.Ytegdfgoanklohaa
open Go.Abs
set_option maxRecDepth 1000000
set_option linter.unusedSectionVars false
theorem own : ownKnob Try.prog.godebug = none := by kernel_rfl
theorem laidOut : laidOutB Try.prog = true := by kernel_rfl
theorem ran : isTrue (callT Try.prog Try.tbl noKn 4000000 (.fn (.func 6) [] []) [] ⟨.e, 0⟩) = true := by kernel_rfl
theorem known [Tok] : KnOk Try.prog EM.kn := ⟨knV_ok Try.tblOk noKn_ok (fun x hx => by
  simp only [List.mem_cons, List.not_mem_nil, or_false] at hx
  subst hx
  obtain ⟨S', h⟩ := isTrue_some ran
  exact ⟨⟨4000000, S', h⟩, fun w => ent_of Try.func6 (by kernel_rfl) (by kernel_rfl) _ w⟩), noKn_ok.x⟩
theorem undInt : Try.prog.underlying 3 = some (.int .i64) := by kernel_rfl
theorem undLives : Try.prog.underlying 22 = some (.slice 60) := by kernel_rfl
theorem flatLive : flatT Try.prog 2 60 = some ksL := by kernel_rfl
theorem sizeLive : sizeT Try.prog 60 = some ksL.length := by kernel_rfl
theorem lv_of : ∀ {vs : List Value}, cellsK ksL vs = true → ∃ x : Lv, vs = lvv x
  | [], h => by cases h
  | [_], h => by simp [ksL, cellsK] at h
  | [_, _], h => by simp [ksL, cellsK] at h
  | [_, _, _], h => by simp [ksL, cellsK] at h
  | [v0, v1, v2, v3], h => by
    simp only [ksL, cellsK, Bool.and_eq_true, Bool.and_true] at h
    obtain ⟨h0, h1, h2, h3⟩ := h
    cases v0 <;> simp [cellK] at h0
    cases v1 <;> simp [cellK] at h1
    cases v2 <;> simp [cellK] at h2
    cases v3 <;> simp [cellK] at h3
    subst h0 h1 h2 h3
    exact ⟨⟨_, _, _, _⟩, rfl⟩
  | _ :: _ :: _ :: _ :: _ :: _, h => by simp [ksL, cellsK] at h
theorem lvs_of : ∀ {L : List (List Value)}, (∀ vs ∈ L, cellsK ksL vs = true) → ∃ l : List Lv, L.map scs = lvs l
  | [], _ => ⟨[], rfl⟩
  | v :: L, hL => by
    obtain ⟨x, rfl⟩ := lv_of (hL v (by simp))
    obtain ⟨l, hl⟩ := lvs_of (L := L) (fun vs hvs => hL vs (by simp [hvs]))
    exact ⟨x :: l, by simp only [List.map_cons, hl]; rfl⟩
end Go.Proofs.Ytegdfgoanklohaa
