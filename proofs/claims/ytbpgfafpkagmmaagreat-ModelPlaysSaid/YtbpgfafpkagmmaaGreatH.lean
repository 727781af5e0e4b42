/- What ModelPlays needs: its awake is known, and slices.Insert; what is handed in is opened. Conditions: stated in each theorem. -/
import Derived.Test.YtbpgfafpkagmmaaGreatE4
import Derived.Test.YtbpgfafpkagmmaaGreatX
import Derived.Test.YtbpgfafpkagmmaaGreatJ
import Derived.Test.YtbpgfafpkagmmaaGreatRows
namespace Go.Proofs.YtbpgfafpkagmmaaGreat
open Go.Abs
set_option maxRecDepth 1000000
set_option linter.unusedSectionVars false
theorem own : ownKnob Tryz.prog.godebug = none := by kernel_rfl
theorem ranA : isTrue (callT Tryz.prog Tryz.tbl Tryz.kx 4000000 (.fn (.func 4) [] []) [] ⟨.e, 0⟩) = true := by kernel_rfl
theorem known [Tok] : KnOk Tryz.prog EM.kn := ⟨knV_ok Tryz.tblOk Tryz.kx_ok (fun x hx => by
  simp only [List.mem_cons, List.not_mem_nil, or_false] at hx
  subst hx
  obtain ⟨S', h⟩ := isTrue_some ranA
  exact ⟨⟨4000000, S', h⟩, fun w => ent_of Tryz.func4 (by kernel_rfl) (by kernel_rfl) _ w⟩), Tryz.kx_ok.x⟩
theorem undInt : Tryz.prog.underlying 3 = some (.int .i64) := by kernel_rfl
theorem undDeals : Tryz.prog.underlying 25 = some (.slice 47) := by kernel_rfl
def ksDl : List (Option IntKind) := [some .i64, some .i64, some .i64]
theorem flatDeal : flatT Tryz.prog 2 47 = some ksDl := by kernel_rfl
theorem sizeDeal : sizeT Tryz.prog 47 = some ksDl.length := by kernel_rfl
def Dl.vs (x : Dl) : List Value := [.int .i64 x.kind, .int .i64 x.at', .int .i64 x.now]
theorem dl_of : ∀ {vs : List Value}, cellsK ksDl vs = true → ∃ x : Dl, vs = Dl.vs x
  | [], h => by cases h
  | [_], h => by simp [ksDl, cellsK] at h
  | [_, _], h => by simp [ksDl, cellsK] at h
  | [v0, v1, v2], h => by
    simp only [ksDl, cellsK, Bool.and_eq_true, Bool.and_true] at h
    obtain ⟨h0, h1, h2⟩ := h
    cases v0 <;> simp [cellK] at h0
    cases v1 <;> simp [cellK] at h1
    cases v2 <;> simp [cellK] at h2
    subst h0 h1 h2
    exact ⟨⟨_, _, _⟩, rfl⟩
  | _ :: _ :: _ :: _ :: _, h => by simp [ksDl, cellsK] at h
theorem dls_of : ∀ {L : List (List Value)}, (∀ vs ∈ L, cellsK ksDl vs = true) → ∃ l : List Dl, L.map scs = dls l
  | [], _ => ⟨[], rfl⟩
  | v :: L, hL => by
    obtain ⟨x, rfl⟩ := dl_of (hL v (by simp))
    obtain ⟨l, hl⟩ := dls_of (L := L) (fun vs hvs => hL vs (by simp [hvs]))
    exact ⟨x :: l, by simp only [List.map_cons, hl]; rfl⟩
def Tk.vs (x : Tsk.Tk) : List Value := [.int .i64 x.kind, .int .i64 x.prio, .int .i64 x.every, .int .i64 x.first]
theorem undTasks : Tryz.prog.underlying 22 = some (.slice 37) := by kernel_rfl
theorem flatTask : flatT Tryz.prog 2 37 = some ksT := by kernel_rfl
theorem sizeTask : sizeT Tryz.prog 37 = some ksT.length := by kernel_rfl
theorem tk_of : ∀ {vs : List Value}, cellsK ksT vs = true → ∃ x : Tsk.Tk, vs = Tk.vs x
  | [], h => by cases h
  | [_], h => by simp [ksT, cellsK] at h
  | [_, _], h => by simp [ksT, cellsK] at h
  | [_, _, _], h => by simp [ksT, cellsK] at h
  | [v0, v1, v2, v3], h => by
    simp only [ksT, cellsK, Bool.and_eq_true, Bool.and_true] at h
    obtain ⟨h0, h1, h2, h3⟩ := h
    cases v0 <;> simp [cellK] at h0
    cases v1 <;> simp [cellK] at h1
    cases v2 <;> simp [cellK] at h2
    cases v3 <;> simp [cellK] at h3
    subst h0 h1 h2 h3
    exact ⟨⟨_, _, _, _⟩, rfl⟩
  | _ :: _ :: _ :: _ :: _ :: _, h => by simp [ksT, cellsK] at h
theorem tks_of : ∀ {L : List (List Value)}, (∀ vs ∈ L, cellsK ksT vs = true) → ∃ l : List Tsk.Tk, L.map scs = Tsk.tks l
  | [], _ => ⟨[], rfl⟩
  | v :: L, hL => by
    obtain ⟨x, rfl⟩ := tk_of (hL v (by simp))
    obtain ⟨l, hl⟩ := tks_of (L := L) (fun vs hvs => hL vs (by simp [hvs]))
    exact ⟨x :: l, by simp only [List.map_cons, hl]; rfl⟩
theorem sizeSl : Tryz.prog.cellsOf 22 = 1 := by kernel_rfl
theorem aggU : aggSB Tryz.prog 24 22 6 6 = true := by kernel_rfl
theorem sizeU : Tryz.prog.cellsOf 24 = 7 := by kernel_rfl
theorem su_of {ns : List Int} (h : ns.length = 6) (hr : ∀ a ∈ ns, IntKind.i64.has a) : ∃ s : Su, (∀ v, ns.map (fun n => AV.sc (.int .i64 n)) ++ [v] = s.cs v) ∧ -9223372036854775808 ≤ s.jobs := by
  obtain ⟨a0, r0, rfl, h0⟩ := cons_of (n := 5) h
  obtain ⟨a1, r1, rfl, h1⟩ := cons_of (n := 4) h0
  obtain ⟨a2, r2, rfl, h2⟩ := cons_of (n := 3) h1
  obtain ⟨a3, r3, rfl, h3⟩ := cons_of (n := 2) h2
  obtain ⟨a4, r4, rfl, h4⟩ := cons_of (n := 1) h3
  obtain ⟨a5, r5, rfl, h5⟩ := cons_of (n := 0) h4
  obtain rfl := nil_of h5
  exact ⟨⟨a0, a1, a2, a3, a4, a5⟩, fun v => rfl, (hr a1 (by simp)).1⟩
end Go.Proofs.YtbpgfafpkagmmaaGreat
