/- What the statements of this seat share: the closed calls are known, a history is read. Conditions: stated in each theorem. -/
import Derived.Test.YtmbabkepakhkiaaE1
import Derived.Test.YtmbabkepakhkiaaRows
namespace Go.Proofs.Ytmbabkepakhkiaa
open Go.Abs
set_option maxRecDepth 1000000
theorem own : ownKnob Try.prog.godebug = none := by kernel_rfl
theorem laidOut : laidOutB Try.prog = true := by kernel_rfl
theorem ran14 : isTrue (callT Try.prog Try.tbl noKn 10000 (.fn (.func 14) [] []) [] ⟨.e, 0⟩) = true := by kernel_rfl
theorem ran6 : isTrue (callT Try.prog Try.tbl noKn 10000 (.fn (.func 6) [] []) [] ⟨.e, 0⟩) = true := by kernel_rfl
theorem known : KnOk Try.prog EM.kn := knOf_ok Try.tblOk (fun x hx => by
  simp only [List.mem_cons, List.not_mem_nil, or_false] at hx
  rcases hx with rfl | rfl
  · obtain ⟨S', h⟩ := isTrue_some ran14
    exact ⟨⟨10000, S', h⟩, fun w => ent_of Try.func14 (by kernel_rfl) (by kernel_rfl) _ w⟩
  · obtain ⟨S', h⟩ := isTrue_some ran6
    exact ⟨⟨10000, S', h⟩, fun w => ent_of Try.func6 (by kernel_rfl) (by kernel_rfl) _ w⟩)
theorem evt_of : ∀ {vs : List Value}, cellsK ksE vs = true → ∃ x : Evt, vs = x.vs
  | [], h => by cases h
  | [_], h => by simp [ksE, cellsK] at h
  | [_, _], h => by simp [ksE, cellsK] at h
  | [_, _, _], h => by simp [ksE, cellsK] at h
  | [_, _, _, _], h => by simp [ksE, cellsK] at h
  | [_, _, _, _, _], h => by simp [ksE, cellsK] at h
  | [_, _, _, _, _, _], h => by simp [ksE, cellsK] at h
  | [_, _, _, _, _, _, _], h => by simp [ksE, cellsK] at h
  | [_, _, _, _, _, _, _, _], h => by simp [ksE, cellsK] at h
  | [v0, v1, v2, v3, v4, v5, v6, v7, v8], h => by
    simp only [ksE, cellsK, Bool.and_eq_true, Bool.and_true] at h
    obtain ⟨h0, h1, h2, h3, h4, h5, h6, h7, h8⟩ := h
    cases v0 <;> simp [cellK] at h0
    cases v1 <;> simp [cellK] at h1
    cases v2 <;> simp [cellK] at h2
    cases v3 <;> simp [cellK] at h3
    cases v4 <;> simp [cellK] at h4
    cases v5 <;> simp [cellK] at h5
    cases v6 <;> simp [cellK] at h6
    cases v7 <;> simp [cellK] at h7
    cases v8 <;> simp [cellK] at h8
    subst h0 h2 h3 h4 h5 h6 h7 h8
    exact ⟨⟨_, _, _, _, _, _, _, _, _⟩, rfl⟩
  | _ :: _ :: _ :: _ :: _ :: _ :: _ :: _ :: _ :: _ :: _, h => by simp [ksE, cellsK] at h
theorem evts_of : ∀ {L : List (List Value)}, (∀ vs ∈ L, cellsK ksE vs = true) → ∃ h : List Evt, L = h.map Evt.vs
  | [], _ => ⟨[], rfl⟩
  | v :: L, hL => by
    obtain ⟨x, rfl⟩ := evt_of (hL v (by simp))
    obtain ⟨h, rfl⟩ := evts_of (L := L) (fun vs hvs => hL vs (by simp [hvs]))
    exact ⟨x :: h, rfl⟩
theorem ints_of : ∀ {L : List (List Value)}, (∀ vs ∈ L, cellsK [some .i64] vs = true) → ∃ l : List Int, L.map scs = ints l
  | [], _ => ⟨[], rfl⟩
  | v :: L, hL => by
    have h := hL v (by simp)
    obtain ⟨l, e⟩ := ints_of (L := L) (fun vs hvs => hL vs (by simp [hvs]))
    match v, h with
    | [a], h =>
      cases a <;> simp [cellsK, cellK] at h
      subst h
      exact ⟨_ :: l, by rw [List.map_cons, e]; rfl⟩
    | [], h => simp [cellsK] at h
    | _ :: _ :: _, h => simp [cellsK] at h
theorem und30 : Try.prog.underlying 30 = some (.slice 29) := by kernel_rfl
theorem und40 : Try.prog.underlying 40 = some (.slice 3) := by kernel_rfl
theorem sizeE : sizeT Try.prog 29 = some ksE.length := by kernel_rfl
theorem sizeI : sizeT Try.prog 3 = some [some IntKind.i64].length := by kernel_rfl
theorem flatI : flatT Try.prog 10 3 = some [some .i64] := by kernel_rfl
end Go.Proofs.Ytmbabkepakhkiaa
