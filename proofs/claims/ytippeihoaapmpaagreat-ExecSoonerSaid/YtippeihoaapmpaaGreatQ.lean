/- ExecSooner: what is asked of the program at this function. No condition. -/
import Derived.Test.YtippeihoaapmpaaGreatJ
import Derived.Test.YtippeihoaapmpaaGreatRows
namespace Go.Proofs.YtippeihoaapmpaaGreat.ExecSoonerOf
set_option maxRecDepth 1000000
theorem j2 : (Rows.execSoonerRow.inPlace == Tryz.checked.prog.inPlace 12) = true := by kernel_rfl
theorem j3 : (Rows.execSoonerRow.unfollowed == Tryz.checked.prog.unfollowed 12) = true := by kernel_rfl
theorem j4 : (Rows.execSoonerRow.recurses == Tryz.checked.prog.recurses 12) = true := by kernel_rfl
theorem j5 : (Rows.execSoonerRow.named == Tryz.checked.prog.varsNamed 12) = true := by kernel_rfl
theorem j6 : (Rows.execSoonerRow.plainKeys == Tryz.checked.prog.plainKeys) = true := by kernel_rfl
theorem j9 : (Rows.execSoonerRow.lifted == Tryz.checked.prog.liftsFinal) = true := by kernel_rfl
theorem closed : joinedFacts Tryz.checked.prog 12 Tryz.f12 Rows.execSoonerSpec Rows.execSoonerRow = true := by
  unfold joinedFacts
  rw [Facts.laidOut, Facts.rowed, j2, j3, j4, j5, j6, Facts.heard, Facts.enters, j9]
  kernel_rfl
theorem inst : Tryz.f12.isInstance Tryz.checked.prog Rows.execSoonerRow.origin Rows.execSoonerRow.targs := of_decide_eq_true (by kernel_rfl)
end Go.Proofs.YtippeihoaapmpaaGreat.ExecSoonerOf
