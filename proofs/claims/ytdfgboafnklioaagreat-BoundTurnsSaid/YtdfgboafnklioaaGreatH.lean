/- What the statement needs: the closed call is known, what is handed in is opened. Conditions: stated in each theorem. -/
import Derived.Test.YtdfgboafnklioaaGreatM86
import Derived.Test.YtdfgboafnklioaaGreatJ
import Derived.Test.YtdfgboafnklioaaGreatRows
set_option linter.all false
namespace Go.Proofs.YtdfgboafnklioaaGreat
open Go.cO
set_option maxRecDepth 1000000
theorem own:ownKnob Tryz.prog.godebug=none:=by kernel_rfl
theorem W0:isTrue (ck Tryz.prog Tryz.iP MU 4000000 (.fn (.func 44) [] []) [] ⟨.e,0⟩)=true:=by kernel_rfl
theorem known [kg]:Gy Tryz.prog EM.kn:=⟨GF Tryz.LC C5 (fun x hx=>by
 simp only[List.mem_cons,List.not_mem_nil,or_false] at hx
 subst hx
 obtain⟨S',h⟩:=sH W0
 exact⟨⟨4000000,S',h⟩,fun w=>GD Tryz.func44 (by kernel_rfl) (by kernel_rfl) _ w⟩),C5.x⟩
theorem Dc:Tryz.prog.underlying 87=some (.slice 3):=by kernel_rfl
theorem Dd:fx Tryz.prog 2 3=some [some .i64]:=by kernel_rfl
theorem De:aQ Tryz.prog 3=some [some IntKind.i64].length:=by kernel_rfl
theorem G6:Tryz.prog.underlying 104=some (.slice 108):=by kernel_rfl
theorem M5:w8 Tryz.prog 108 87=true:=by kernel_rfl
end Go.Proofs.YtdfgboafnklioaaGreat
