/- slices.Insert is known: what it answers, by the library's own body. No condition. -/
import Derived.Test.YtdidccjcbfcklaaGreatAd
import Derived.Test.YtdidccjcbfcklaaGreatProg
import Derived.KernelRfl
set_option linter.unusedVariables false
set_option maxRecDepth 100000
namespace Go.Proofs
open Go.Abs
variable [Tok]
noncomputable def Tryz.ins176 : Go.Shelf.Ren := ⟨fun n => match n with | 22 => 176 | 29 => 258 | 30 => 259 | _ => 0, fun n => match n with | 3 => 3 | 4 => 4 | 9 => 64 | 24 => 61 | _ => 0, fun n => n⟩
theorem Tryz.ins176_ok : XEnt Tryz.prog 176 (insK 2 16) :=
  insX_ok (ν := Tryz.ins176) (nm := Tryz.f176.name) (fo := Tryz.f258) (by kernel_rfl) (Tryz.func176.trans (congrArg some (by kernel_rfl))) (by kernel_rfl) (by kernel_rfl) (by kernel_rfl) (by kernel_rfl) (by kernel_rfl) (by kernel_rfl) (by kernel_rfl)
    Tryz.func258 (by kernel_rfl) (by kernel_rfl) (by kernel_rfl) (by kernel_rfl)
noncomputable def Tryz.xs : List (FuncId × XFn) := [(176, insK 2 16)]
noncomputable def Tryz.kx : Known := ⟨fun _ _ => none, xOf Tryz.xs⟩
theorem Tryz.kx_ok : KnOk Tryz.prog Tryz.kx := ⟨noKnV_ok, xOf_ok fun x hx => by
  simp only [Tryz.xs, List.mem_cons, List.not_mem_nil, or_false] at hx
  rcases hx with rfl
  · exact Tryz.ins176_ok⟩
end Go.Proofs
