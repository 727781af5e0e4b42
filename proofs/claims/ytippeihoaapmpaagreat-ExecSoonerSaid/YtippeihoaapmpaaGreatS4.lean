/- ExecSooner: each of the sixteen is answered. No condition. -/
import Derived.Test.YtippeihoaapmpaaGreatS00
import Derived.Test.YtippeihoaapmpaaGreatS01
import Derived.Test.YtippeihoaapmpaaGreatS02
import Derived.Test.YtippeihoaapmpaaGreatS03
import Derived.Test.YtippeihoaapmpaaGreatS10
import Derived.Test.YtippeihoaapmpaaGreatS11
import Derived.Test.YtippeihoaapmpaaGreatS12
import Derived.Test.YtippeihoaapmpaaGreatS13
import Derived.Test.YtippeihoaapmpaaGreatS20
import Derived.Test.YtippeihoaapmpaaGreatS21
import Derived.Test.YtippeihoaapmpaaGreatS22
import Derived.Test.YtippeihoaapmpaaGreatS23
import Derived.Test.YtippeihoaapmpaaGreatS30
import Derived.Test.YtippeihoaapmpaaGreatS31
import Derived.Test.YtippeihoaapmpaaGreatS32
import Derived.Test.YtippeihoaapmpaaGreatS33
namespace Go.Proofs.YtippeihoaapmpaaGreat
open Go.Abs
set_option maxRecDepth 1000000
theorem pick4 (x : Int) : pick x 4 = 0 ∨ pick x 4 = 1 ∨ pick x 4 = 2 ∨ pick x 4 = 3 := by
  unfold pick
  rw [if_neg (by decide)]
  omega
theorem soonerRuns (x y : Int) : ∃ n, isTrue (callT Tryz.prog Tryz.tbl kn2 n (.fn (.func 12) [] []) [I x, I y] ⟨.e, 0⟩) = true := by
  have h : ∃ n, isTrue (callT Tryz.prog Tryz.tbl kn2 n (.fn (.func 12) [] []) [I (pick x 4), I (pick y 4)] ⟨.e, 0⟩) = true := by
    rcases pick4 x with h | h | h | h <;> rcases pick4 y with k | k | k | k <;> rw [h, k]
    · exact Sooner00.ok
    · exact Sooner01.ok
    · exact Sooner02.ok
    · exact Sooner03.ok
    · exact Sooner10.ok
    · exact Sooner11.ok
    · exact Sooner12.ok
    · exact Sooner13.ok
    · exact Sooner20.ok
    · exact Sooner21.ok
    · exact Sooner22.ok
    · exact Sooner23.ok
    · exact Sooner30.ok
    · exact Sooner31.ok
    · exact Sooner32.ok
    · exact Sooner33.ok
  obtain ⟨n, hn⟩ := h
  exact ⟨n, isTrue_sim (fun _ => rfl) rfl (fun _ => rfl) rfl simSooner hn⟩
end Go.Proofs.YtippeihoaapmpaaGreat
