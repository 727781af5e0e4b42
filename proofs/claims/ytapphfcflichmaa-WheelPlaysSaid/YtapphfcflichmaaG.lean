/- What the wheel's statements share: the chapter's examples are known, what is handed in is opened. Conditions: stated in each theorem. -/
import Derived.Test.YtapphfcflichmaaE3
import Derived.Test.YtapphfcflichmaaX
import Derived.Test.YtapphfcflichmaaRows
namespace Go.Proofs.Ytapphfcflichmaa.W
open Go.Abs
set_option maxRecDepth 1000000
set_option linter.unusedSectionVars false
theorem own : ownKnob Try.prog.godebug = none := by kernel_rfl
theorem laidOut : laidOutB Try.prog = true := by kernel_rfl
theorem ran : isTrue (callT Try.prog Try.tbl Try.kx 4000000 (.fn (.func 7) [] []) [] ⟨.e, 0⟩) = true := by kernel_rfl
theorem known [Tok] : KnOk Try.prog EM.kn := ⟨knV_ok Try.tblOk Try.kx_ok (fun x hx => by
  simp only [List.mem_cons, List.not_mem_nil, or_false] at hx
  subst hx
  obtain ⟨S', h⟩ := isTrue_some ran
  exact ⟨⟨4000000, S', h⟩, fun w => ent_of Try.func7 (by kernel_rfl) (by kernel_rfl) _ w⟩), Try.kx_ok.x⟩
theorem undInt : Try.prog.underlying 3 = some (.int .i64) := by kernel_rfl
theorem undInts : Try.prog.underlying 48 = some (.slice 3) := by kernel_rfl
theorem flatInt : flatT Try.prog 2 3 = some [some .i64] := by kernel_rfl
theorem sizeInt : sizeT Try.prog 3 = some [some IntKind.i64].length := by kernel_rfl
theorem int_of : ∀ {vs : List Value}, cellsK [some .i64] vs = true → ∃ n : Int, vs = [.int .i64 n]
  | [], h => by cases h
  | [v0], h => by
    simp only [cellsK, Bool.and_true] at h
    cases v0 <;> simp [cellK] at h
    subst h
    exact ⟨_, rfl⟩
  | _ :: _ :: _, h => by simp [cellsK] at h
theorem ints_of : ∀ {L : List (List Value)}, (∀ vs ∈ L, cellsK [some .i64] vs = true) → ∃ l : List Int, L.map scs = ints l
  | [], _ => ⟨[], rfl⟩
  | v :: L, hL => by
    obtain ⟨n, rfl⟩ := int_of (hL v (by simp))
    obtain ⟨l, hl⟩ := ints_of (L := L) (fun vs hvs => hL vs (by simp [hvs]))
    exact ⟨n :: l, by simp [ints, hl, scs]⟩
def ksT : List (Option IntKind) := [some .i64, some .i64, some .i64, some .i64]
def Tk.vs (x : Tsk.Tk) : List Value := [.int .i64 x.kind, .int .i64 x.prio, .int .i64 x.every, .int .i64 x.first]
theorem undTasks : Try.prog.underlying 22 = some (.slice 106) := by kernel_rfl
theorem flatTask : flatT Try.prog 2 106 = some ksT := by kernel_rfl
theorem sizeTask : sizeT Try.prog 106 = some ksT.length := by kernel_rfl
theorem tk_of : ∀ {vs : List Value}, cellsK ksT vs = true → ∃ x : Tsk.Tk, vs = Tk.vs x
  | [], h => by cases h
  | [_], h => by simp [ksT, cellsK] at h
  | [_, _], h => by simp [ksT, cellsK] at h
  | [_, _, _], h => by simp [ksT, cellsK] at h
  | [v0, v1, v2, v3], h => by
    simp only [ksT, cellsK, Bool.and_eq_true, Bool.and_true] at h
    obtain ⟨h0, h1, h2, h3⟩ := h
    cases v0 <;> simp [cellK] at h0
    cases v1 <;> simp [cellK] at h1
    cases v2 <;> simp [cellK] at h2
    cases v3 <;> simp [cellK] at h3
    subst h0 h1 h2 h3
    exact ⟨⟨_, _, _, _⟩, rfl⟩
  | _ :: _ :: _ :: _ :: _ :: _, h => by simp [ksT, cellsK] at h
theorem tks_of : ∀ {L : List (List Value)}, (∀ vs ∈ L, cellsK ksT vs = true) → ∃ l : List Tsk.Tk, L.map scs = Tsk.tks l
  | [], _ => ⟨[], rfl⟩
  | v :: L, hL => by
    obtain ⟨x, rfl⟩ := tk_of (hL v (by simp))
    obtain ⟨l, hl⟩ := tks_of (L := L) (fun vs hvs => hL vs (by simp [hvs]))
    exact ⟨x :: l, by simp only [List.map_cons, hl]; rfl⟩
def ksA : List (Option IntKind) := [some .i64, some .i64, some .i64]
def Ac.vs (x : Go.Abs.Ac) : List Value := [.int .i64 x.what, .int .i64 x.id, .int .i64 x.tm]
theorem undActs : Try.prog.underlying 23 = some (.slice 38) := by kernel_rfl
theorem flatAct : flatT Try.prog 2 38 = some ksA := by kernel_rfl
theorem sizeAct : sizeT Try.prog 38 = some ksA.length := by kernel_rfl
theorem ac_of : ∀ {vs : List Value}, cellsK ksA vs = true → ∃ x : Go.Abs.Ac, vs = Ac.vs x
  | [], h => by cases h
  | [_], h => by simp [ksA, cellsK] at h
  | [_, _], h => by simp [ksA, cellsK] at h
  | [v0, v1, v2], h => by
    simp only [ksA, cellsK, Bool.and_eq_true, Bool.and_true] at h
    obtain ⟨h0, h1, h2⟩ := h
    cases v0 <;> simp [cellK] at h0
    cases v1 <;> simp [cellK] at h1
    cases v2 <;> simp [cellK] at h2
    subst h0 h1 h2
    exact ⟨⟨_, _, _⟩, rfl⟩
  | _ :: _ :: _ :: _ :: _, h => by simp [ksA, cellsK] at h
theorem acs_of : ∀ {L : List (List Value)}, (∀ vs ∈ L, cellsK ksA vs = true) → ∃ l : List Go.Abs.Ac, L.map scs = Go.Abs.acs l
  | [], _ => ⟨[], rfl⟩
  | v :: L, hL => by
    obtain ⟨x, rfl⟩ := ac_of (hL v (by simp))
    obtain ⟨l, hl⟩ := acs_of (L := L) (fun vs hvs => hL vs (by simp [hvs]))
    exact ⟨x :: l, by simp only [List.map_cons, hl]; rfl⟩
end Go.Proofs.Ytapphfcflichmaa.W
