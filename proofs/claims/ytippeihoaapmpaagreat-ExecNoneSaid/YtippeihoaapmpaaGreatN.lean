/- ExecNone: its number goes through a pick out of nine; each of the nine is answered. No condition. -/
import Derived.Test.YtippeihoaapmpaaGreatF
namespace Go.Proofs.YtippeihoaapmpaaGreat
open Go.Abs
set_option linter.unusedVariables false
set_option maxRecDepth 1000000
theorem simNone {x : Int} : Sim (pickE 34) (Tryz.a9 [I x]) (Tryz.a9 [I (pick x 9)]) := by
  unfold Tryz.a9 Tryz.a9x16 Tryz.a9x15 Tryz.a9x14 Tryz.a9x13 Tryz.a9x12
  simp only [nth]
  repeat' (first
    | with_reducible exact Sim.refl _
    | (refine Sim.swap ⟨rfl, _, _, by decide, rfl, rfl⟩ ?_; intro v)
    | (with_reducible refine Sim.op ?_; intro v)
    | (with_reducible refine Sim.gop ?_; intro v)
    | (with_reducible refine Sim.chk ?_)
    | (with_reducible refine Sim.gchk ?_)
    | (with_reducible refine Sim.ite ?_ ?_)
    | (with_reducible refine Sim.call ?_; intro v)
    | (with_reducible refine Sim.gcall ?_; intro v)
    | (with_reducible refine Sim.bind ?_ ?_; rotate_left; intro vs; rotate_right)
    | (with_reducible refine Sim.loop ?_; intro vs))
theorem none0 : isTrue (callT Tryz.prog Tryz.tbl kn 4000000 (.fn (.func 9) [] []) [I 0] ⟨.e, 0⟩) = true := by kernel_rfl
theorem none1 : isTrue (callT Tryz.prog Tryz.tbl kn 4000000 (.fn (.func 9) [] []) [I 1] ⟨.e, 0⟩) = true := by kernel_rfl
theorem none2 : isTrue (callT Tryz.prog Tryz.tbl kn 4000000 (.fn (.func 9) [] []) [I 2] ⟨.e, 0⟩) = true := by kernel_rfl
theorem none3 : isTrue (callT Tryz.prog Tryz.tbl kn 4000000 (.fn (.func 9) [] []) [I 3] ⟨.e, 0⟩) = true := by kernel_rfl
theorem none4 : isTrue (callT Tryz.prog Tryz.tbl kn 4000000 (.fn (.func 9) [] []) [I 4] ⟨.e, 0⟩) = true := by kernel_rfl
theorem none5 : isTrue (callT Tryz.prog Tryz.tbl kn 4000000 (.fn (.func 9) [] []) [I 5] ⟨.e, 0⟩) = true := by kernel_rfl
theorem none6 : isTrue (callT Tryz.prog Tryz.tbl kn 4000000 (.fn (.func 9) [] []) [I 6] ⟨.e, 0⟩) = true := by kernel_rfl
theorem none7 : isTrue (callT Tryz.prog Tryz.tbl kn 4000000 (.fn (.func 9) [] []) [I 7] ⟨.e, 0⟩) = true := by kernel_rfl
theorem none8 : isTrue (callT Tryz.prog Tryz.tbl kn 4000000 (.fn (.func 9) [] []) [I 8] ⟨.e, 0⟩) = true := by kernel_rfl
theorem pick9 (x : Int) : pick x 9 = 0 ∨ pick x 9 = 1 ∨ pick x 9 = 2 ∨ pick x 9 = 3 ∨ pick x 9 = 4 ∨ pick x 9 = 5 ∨ pick x 9 = 6 ∨ pick x 9 = 7 ∨ pick x 9 = 8 := by
  unfold pick
  rw [if_neg (by decide)]
  omega
theorem noneRuns (x : Int) : isTrue (callT Tryz.prog Tryz.tbl kn 4000000 (.fn (.func 9) [] []) [I x] ⟨.e, 0⟩) = true := by
  refine isTrue_sim (fun _ => rfl) rfl (fun _ => rfl) rfl simNone ?_
  rcases pick9 x with h | h | h | h | h | h | h | h | h <;> rw [h]
  · exact none0
  · exact none1
  · exact none2
  · exact none3
  · exact none4
  · exact none5
  · exact none6
  · exact none7
  · exact none8
end Go.Proofs.YtippeihoaapmpaaGreat
