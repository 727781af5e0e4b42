/- What the statements of this seat share: the closed calls are known, what is handed in is opened. Conditions: stated in each theorem. -/
import Derived.Test.YtpmhpfmigkoggaaGreatS2
import Derived.Test.YtpmhpfmigkoggaaGreatJ
import Derived.Test.YtpmhpfmigkoggaaGreatRows
namespace Go.Proofs.YtpmhpfmigkoggaaGreat
open Go.Abs
set_option maxRecDepth 1000000
set_option linter.unusedSectionVars false
theorem own : ownKnob Tryz.prog.godebug = none := by kernel_rfl
theorem ranC : isTrue (callT Tryz.prog Tryz.tbl noKn 4000000 (.fn (.func 6) [] []) [] ⟨.e, 0⟩) = true := by kernel_rfl
theorem known [Tok] : KnOk Tryz.prog EM.kn := ⟨knV_ok Tryz.tblOk noKn_ok (fun x hx => by
  simp only [List.mem_cons, List.not_mem_nil, or_false] at hx
  rcases hx with rfl
  · obtain ⟨S', h⟩ := isTrue_some ranC
    exact ⟨⟨4000000, S', h⟩, fun w => ent_of Tryz.func6 (by kernel_rfl) (by kernel_rfl) _ w⟩), noKn_ok.x⟩
theorem undInt : Tryz.prog.underlying 3 = some (.int .i64) := by kernel_rfl
theorem undWords : Tryz.prog.underlying 43 = some (.slice 53) := by kernel_rfl
theorem flatWord : flatT Tryz.prog 2 53 = some [some .u64] := by kernel_rfl
theorem sizeWord : sizeT Tryz.prog 53 = some [some IntKind.u64].length := by kernel_rfl
theorem word_of : ∀ {vs : List Value}, cellsK [some .u64] vs = true → (∀ y ∈ vs, inR y = true) → ∃ n : Int, vs = [.int .u64 n] ∧ 0 ≤ n ∧ n < 18446744073709551616
  | [], h, _ => by cases h
  | [v0], h, hr => by
    simp only [cellsK, Bool.and_true] at h
    cases v0 <;> simp [cellK] at h
    subst h
    rename_i n
    have := hr _ (List.Mem.head _)
    refine ⟨n, rfl, ?_⟩
    have h2 : IntKind.u64.min ≤ n ∧ n ≤ IntKind.u64.max := by simpa [inR, Lit.wf] using this
    have h3 : (0 : Int) ≤ n ∧ n ≤ 18446744073709551615 := h2
    omega
  | _ :: _ :: _, h, _ => by simp [cellsK] at h
theorem words_of : ∀ {L : List (List Value)}, (∀ vs ∈ L, cellsK [some .u64] vs = true ∧ ∀ y ∈ vs, inR y = true) → ∃ l : List Int, L.map scs = uints l ∧ ∀ z ∈ l, 0 ≤ z ∧ z < 18446744073709551616
  | [], _ => ⟨[], rfl, by simp⟩
  | v :: L, hL => by
    obtain ⟨n, rfl, hn⟩ := word_of (hL v (by simp)).1 (hL v (by simp)).2
    obtain ⟨l, hl, hr⟩ := words_of (L := L) (fun vs hvs => hL vs (by simp [hvs]))
    refine ⟨n :: l, by simp [uints, hl, scs], fun z hz => ?_⟩
    rcases List.mem_cons.1 hz with rfl | h
    · exact hn
    · exact hr z h
def ksT : List (Option IntKind) := [some .i64, some .i64, some .i64, some .i64]
def Tk.vs (x : Tsk.Tk) : List Value := [.int .i64 x.kind, .int .i64 x.prio, .int .i64 x.every, .int .i64 x.first]
theorem undTasks : Tryz.prog.underlying 40 = some (.slice 138) := by kernel_rfl
theorem flatTask : flatT Tryz.prog 2 138 = some ksT := by kernel_rfl
theorem sizeTask : sizeT Tryz.prog 138 = some ksT.length := by kernel_rfl
theorem tk_of : ∀ {vs : List Value}, cellsK ksT vs = true → ∃ x : Tsk.Tk, vs = Tk.vs x
  | [], h => by cases h
  | [_], h => by simp [ksT, cellsK] at h
  | [_, _], h => by simp [ksT, cellsK] at h
  | [_, _, _], h => by simp [ksT, cellsK] at h
  | [v0, v1, v2, v3], h => by
    simp only [ksT, cellsK, Bool.and_eq_true, Bool.and_true] at h
    obtain ⟨h0, h1, h2, h3⟩ := h
    cases v0 <;> simp [cellK] at h0
    cases v1 <;> simp [cellK] at h1
    cases v2 <;> simp [cellK] at h2
    cases v3 <;> simp [cellK] at h3
    subst h0 h1 h2 h3
    exact ⟨⟨_, _, _, _⟩, rfl⟩
  | _ :: _ :: _ :: _ :: _ :: _, h => by simp [ksT, cellsK] at h
theorem tks_of : ∀ {L : List (List Value)}, (∀ vs ∈ L, cellsK ksT vs = true) → ∃ l : List Tsk.Tk, L.map scs = Tsk.tks l
  | [], _ => ⟨[], rfl⟩
  | v :: L, hL => by
    obtain ⟨x, rfl⟩ := tk_of (hL v (by simp))
    obtain ⟨l, hl⟩ := tks_of (L := L) (fun vs hvs => hL vs (by simp [hvs]))
    exact ⟨x :: l, by simp only [List.map_cons, hl]; rfl⟩
theorem sizeSl : Tryz.prog.cellsOf 40 = 1 := by kernel_rfl
theorem aggE : aggSB Tryz.prog 42 40 28 7 = true := by kernel_rfl
theorem sizeE : Tryz.prog.cellsOf 42 = 29 := by kernel_rfl
theorem ex_of {ns : List Int} (h : ns.length = 28) (hr : ∀ a ∈ ns, IntKind.i64.has a) : ∃ e : Ex, ∀ v, ns.map (fun n => AV.sc (.int .i64 n)) ++ [v] = e.cs v := by
  obtain ⟨a0, r0, rfl, h0⟩ := cons_of (n := 27) h
  obtain ⟨a1, r1, rfl, h1⟩ := cons_of (n := 26) h0
  obtain ⟨a2, r2, rfl, h2⟩ := cons_of (n := 25) h1
  obtain ⟨a3, r3, rfl, h3⟩ := cons_of (n := 24) h2
  obtain ⟨a4, r4, rfl, h4⟩ := cons_of (n := 23) h3
  obtain ⟨a5, r5, rfl, h5⟩ := cons_of (n := 22) h4
  obtain ⟨a6, r6, rfl, h6⟩ := cons_of (n := 21) h5
  obtain ⟨a7, r7, rfl, h7⟩ := cons_of (n := 20) h6
  obtain ⟨a8, r8, rfl, h8⟩ := cons_of (n := 19) h7
  obtain ⟨a9, r9, rfl, h9⟩ := cons_of (n := 18) h8
  obtain ⟨a10, r10, rfl, h10⟩ := cons_of (n := 17) h9
  obtain ⟨a11, r11, rfl, h11⟩ := cons_of (n := 16) h10
  obtain ⟨a12, r12, rfl, h12⟩ := cons_of (n := 15) h11
  obtain ⟨a13, r13, rfl, h13⟩ := cons_of (n := 14) h12
  obtain ⟨a14, r14, rfl, h14⟩ := cons_of (n := 13) h13
  obtain ⟨a15, r15, rfl, h15⟩ := cons_of (n := 12) h14
  obtain ⟨a16, r16, rfl, h16⟩ := cons_of (n := 11) h15
  obtain ⟨a17, r17, rfl, h17⟩ := cons_of (n := 10) h16
  obtain ⟨a18, r18, rfl, h18⟩ := cons_of (n := 9) h17
  obtain ⟨a19, r19, rfl, h19⟩ := cons_of (n := 8) h18
  obtain ⟨a20, r20, rfl, h20⟩ := cons_of (n := 7) h19
  obtain ⟨a21, r21, rfl, h21⟩ := cons_of (n := 6) h20
  obtain ⟨a22, r22, rfl, h22⟩ := cons_of (n := 5) h21
  obtain ⟨a23, r23, rfl, h23⟩ := cons_of (n := 4) h22
  obtain ⟨a24, r24, rfl, h24⟩ := cons_of (n := 3) h23
  obtain ⟨a25, r25, rfl, h25⟩ := cons_of (n := 2) h24
  obtain ⟨a26, r26, rfl, h26⟩ := cons_of (n := 1) h25
  obtain ⟨a27, r27, rfl, h27⟩ := cons_of (n := 0) h26
  obtain rfl := nil_of h27
  exact ⟨⟨⟨a0, a1, a2, a3, a4, a5, a6, a7, a8, a9, a10, a11, a12⟩, a13, a14, a15, a16, a17, a18, a19, a20, a21, a22, a23, a24, a25, a26, a27⟩, fun v => rfl⟩
end Go.Proofs.YtpmhpfmigkoggaaGreat
