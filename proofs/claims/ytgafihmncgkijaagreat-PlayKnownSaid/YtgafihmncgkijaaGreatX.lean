/- slices.Insert is known: what it answers, by the library's own body. No condition. -/
import Derived.Test.YtgafihmncgkijaaGreatAd
import Derived.Test.YtgafihmncgkijaaGreatProg
import Derived.KernelRfl
set_option linter.unusedVariables false
set_option maxRecDepth 100000
namespace Go.Proofs
open Go.Abs
variable [Tok]
noncomputable def Tryz.ins248 : Go.Shelf.Ren := ⟨fun n => match n with | 22 => 248 | 29 => 329 | 30 => 330 | _ => 0, fun n => match n with | 3 => 3 | 4 => 4 | 9 => 72 | 24 => 69 | _ => 0, fun n => n⟩
theorem Tryz.ins248_ok : XEnt Tryz.prog 248 (insK 2 16) :=
  insX_ok (ν := Tryz.ins248) (nm := Tryz.f248.name) (fo := Tryz.f329) (by kernel_rfl) (Tryz.func248.trans (congrArg some (by kernel_rfl))) (by kernel_rfl) (by kernel_rfl) (by kernel_rfl) (by kernel_rfl) (by kernel_rfl) (by kernel_rfl) (by kernel_rfl)
    Tryz.func329 (by kernel_rfl) (by kernel_rfl) (by kernel_rfl) (by kernel_rfl)
noncomputable def Tryz.xs : List (FuncId × XFn) := [(248, insK 2 16)]
noncomputable def Tryz.kx : Known := ⟨fun _ _ => none, xOf Tryz.xs⟩
theorem Tryz.kx_ok : KnOk Tryz.prog Tryz.kx := ⟨noKnV_ok, xOf_ok fun x hx => by
  simp only [Tryz.xs, List.mem_cons, List.not_mem_nil, or_false] at hx
  rcases hx with rfl
  · exact Tryz.ins248_ok⟩
end Go.Proofs
