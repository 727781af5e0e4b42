/- What the statements of this seat share: the closed calls are known, what is handed in is opened. Conditions: stated in each theorem. -/
import Derived.Test.YtlafihfoofnmaaaGreatE3
import Derived.Test.YtlafihfoofnmaaaGreatAe
import Derived.Test.YtlafihfoofnmaaaGreatJ
import Derived.Test.YtlafihfoofnmaaaGreatRows
namespace Go.Proofs.YtlafihfoofnmaaaGreat
open Go.Abs
set_option maxRecDepth 1000000
set_option linter.unusedSectionVars false
theorem own : ownKnob Tryz.prog.godebug = none := by kernel_rfl
theorem ranA : isTrue (callT Tryz.prog Tryz.tbl noKn 4000000 (.fn (.func 24) [] []) [] ⟨.e, 0⟩) = true := by kernel_rfl
noncomputable def kn1 : Known := ⟨knV [(24, .bool true)], noKn.x⟩
theorem known1 [Tok] : KnOk Tryz.prog kn1 := ⟨knV_ok Tryz.tblOk noKn_ok (fun x hx => by
  simp only [List.mem_cons, List.not_mem_nil, or_false] at hx
  subst hx
  obtain ⟨S', h⟩ := isTrue_some ranA
  exact ⟨⟨4000000, S', h⟩, fun w => ent_of Tryz.func24 (by kernel_rfl) (by kernel_rfl) _ w⟩), noKn_ok.x⟩
theorem ranB : isTrue (callT Tryz.prog Tryz.tbl kn1 4000000 (.fn (.func 4) [] []) [] ⟨.e, 0⟩) = true := by kernel_rfl
theorem known [Tok] : KnOk Tryz.prog EM.kn := ⟨knV_ok Tryz.tblOk known1 (fun x hx => by
  simp only [List.mem_cons, List.not_mem_nil, or_false] at hx
  subst hx
  obtain ⟨S', h⟩ := isTrue_some ranB
  exact ⟨⟨4000000, S', h⟩, fun w => ent_of Tryz.func4 (by kernel_rfl) (by kernel_rfl) _ w⟩), noKn_ok.x⟩
def ksT : List (Option IntKind) := [some .i64, some .i64, some .i64, some .i64]
def Tk.vs (x : Tsk.Tk) : List Value := [.int .i64 x.kind, .int .i64 x.prio, .int .i64 x.every, .int .i64 x.first]
theorem undTasks : Tryz.prog.underlying 22 = some (.slice 75) := by kernel_rfl
theorem flatTask : flatT Tryz.prog 2 75 = some ksT := by kernel_rfl
theorem sizeTask : sizeT Tryz.prog 75 = some ksT.length := by kernel_rfl
theorem tk_of : ∀ {vs : List Value}, cellsK ksT vs = true → ∃ x : Tsk.Tk, vs = Tk.vs x
  | [], h => by cases h
  | [_], h => by simp [ksT, cellsK] at h
  | [_, _], h => by simp [ksT, cellsK] at h
  | [_, _, _], h => by simp [ksT, cellsK] at h
  | [v0, v1, v2, v3], h => by
    simp only [ksT, cellsK, Bool.and_eq_true, Bool.and_true] at h
    obtain ⟨h0, h1, h2, h3⟩ := h
    cases v0 <;> simp [cellK] at h0
    cases v1 <;> simp [cellK] at h1
    cases v2 <;> simp [cellK] at h2
    cases v3 <;> simp [cellK] at h3
    subst h0 h1 h2 h3
    exact ⟨⟨_, _, _, _⟩, rfl⟩
  | _ :: _ :: _ :: _ :: _ :: _, h => by simp [ksT, cellsK] at h
theorem tks_of : ∀ {L : List (List Value)}, (∀ vs ∈ L, cellsK ksT vs = true) → ∃ l : List Tsk.Tk, L.map scs = Tsk.tks l
  | [], _ => ⟨[], rfl⟩
  | v :: L, hL => by
    obtain ⟨x, rfl⟩ := tk_of (hL v (by simp))
    obtain ⟨l, hl⟩ := tks_of (L := L) (fun vs hvs => hL vs (by simp [hvs]))
    exact ⟨x :: l, by simp only [List.map_cons, hl]; rfl⟩
theorem sizeSl : Tryz.prog.cellsOf 22 = 1 := by kernel_rfl
theorem aggU : aggSB Tryz.prog 24 22 6 6 = true := by kernel_rfl
theorem sizeU : Tryz.prog.cellsOf 24 = 7 := by kernel_rfl
theorem su_of {ns : List Int} (h : ns.length = 6) (hr : ∀ a ∈ ns, IntKind.i64.has a) : ∃ s : Su, (∀ v, ns.map (fun n => AV.sc (.int .i64 n)) ++ [v] = s.cs v) ∧ -9223372036854775808 ≤ s.jobs := by
  obtain ⟨a0, r0, rfl, h0⟩ := cons_of (n := 5) h
  obtain ⟨a1, r1, rfl, h1⟩ := cons_of (n := 4) h0
  obtain ⟨a2, r2, rfl, h2⟩ := cons_of (n := 3) h1
  obtain ⟨a3, r3, rfl, h3⟩ := cons_of (n := 2) h2
  obtain ⟨a4, r4, rfl, h4⟩ := cons_of (n := 1) h3
  obtain ⟨a5, r5, rfl, h5⟩ := cons_of (n := 0) h4
  obtain rfl := nil_of h5
  exact ⟨⟨a0, a1, a2, a3, a4, a5⟩, fun v => rfl, (hr a1 (by simp)).1⟩
end Go.Proofs.YtlafihfoofnmaaaGreat
