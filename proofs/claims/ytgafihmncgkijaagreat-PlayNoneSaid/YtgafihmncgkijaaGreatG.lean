/- What PlayNone needs: its awake is known, what is handed in is opened; and it is run, whatever the move. Conditions: stated in each theorem. -/
import Derived.Test.YtgafihmncgkijaaGreatT
import Derived.Test.YtgafihmncgkijaaGreatX
import Derived.Test.YtgafihmncgkijaaGreatJ
import Derived.Test.YtgafihmncgkijaaGreatRows
namespace Go.Proofs.YtgafihmncgkijaaGreat
open Go.Abs
set_option maxRecDepth 1000000
set_option linter.unusedSectionVars false
noncomputable def EM : Mach := ⟨Tryz.prog, Tryz.tbl, ⟨knV [(13, .bool true)], Tryz.kx.x⟩⟩
theorem own : ownKnob Tryz.prog.godebug = none := by kernel_rfl
theorem ranA : isTrue (callT Tryz.prog Tryz.tbl Tryz.kx 4000000 (.fn (.func 13) [] []) [] ⟨.e, 0⟩) = true := by kernel_rfl
theorem known [Tok] : KnOk Tryz.prog EM.kn := ⟨knV_ok Tryz.tblOk Tryz.kx_ok (fun x hx => by
  simp only [List.mem_cons, List.not_mem_nil, or_false] at hx
  subst hx
  obtain ⟨S', h⟩ := isTrue_some ranA
  exact ⟨⟨4000000, S', h⟩, fun w => ent_of Tryz.func13 (by kernel_rfl) (by kernel_rfl) _ w⟩), Tryz.kx_ok.x⟩
def ksM : List (Option IntKind) := [some .i64, some .i64, some .i64]
structure Mv where
  kind : Int
  core : Int
  num : Int
def Mv.vs (x : Mv) : List Value := [.int .i64 x.kind, .int .i64 x.core, .int .i64 x.num]
theorem strM : isStructB Tryz.prog 39 = true := by kernel_rfl
theorem flatM : flatT Tryz.prog 2 39 = some ksM := by kernel_rfl
theorem sizeM : sizeT Tryz.prog 39 = some ksM.length := by kernel_rfl
theorem mv_of : ∀ {vs : List Value}, cellsK ksM vs = true → ∃ x : Mv, vs = x.vs
  | [], h => by cases h
  | [_], h => by simp [ksM, cellsK] at h
  | [_, _], h => by simp [ksM, cellsK] at h
  | [v0, v1, v2], h => by
    simp only [ksM, cellsK, Bool.and_eq_true, Bool.and_true] at h
    obtain ⟨h0, h1, h2⟩ := h
    cases v0 <;> simp [cellK] at h0
    cases v1 <;> simp [cellK] at h1
    cases v2 <;> simp [cellK] at h2
    subst h0 h1 h2
    exact ⟨⟨_, _, _⟩, rfl⟩
  | _ :: _ :: _ :: _ :: _, h => by simp [ksM, cellsK] at h
theorem ran (a b c : Int) : outTrue (run EM.P (callT EM.P EM.tbl EM.kn 4000000) 4000000 (Tryz.a5 [.agg [.sc (.int .i64 a), .sc (.int .i64 b), .sc (.int .i64 c)]]) ⟨.e, 0⟩) = true := by kernel_rfl
theorem playNone_ok (x : Mv) : wpC EM (.fn (.func 5) [] []) [.agg (scs x.vs)] ⟨.e, 0⟩ fun r _ => r = .sc (.bool true) :=
  Go.Abs.wpC_fn (b := Tryz.a5) rfl rfl (Go.Abs.wp_runTrue 4000000 (ran x.kind x.core x.num))
end Go.Proofs.YtgafihmncgkijaaGreat
