/- slices.Insert is known: what it answers, by the library's own body. No condition. -/
import Derived.Test.YtbpgfafpkagmmaaGreatAd
import Derived.Test.YtbpgfafpkagmmaaGreatProg
import Derived.KernelRfl
set_option linter.unusedVariables false
set_option maxRecDepth 100000
namespace Go.Proofs
open Go.Abs
variable [Tok]
noncomputable def Tryz.ins79 : Go.Shelf.Ren := ⟨fun n => match n with | 22 => 79 | 29 => 94 | 30 => 95 | _ => 0, fun n => match n with | 3 => 3 | 4 => 4 | 9 => 3 | 24 => 58 | _ => 0, fun n => n⟩
theorem Tryz.ins79_ok : XEnt Tryz.prog 79 (insK 1 8) :=
  insX_ok (ν := Tryz.ins79) (nm := Tryz.f79.name) (fo := Tryz.f94) (by kernel_rfl) (Tryz.func79.trans (congrArg some (by kernel_rfl))) (by kernel_rfl) (by kernel_rfl) (by kernel_rfl) (by kernel_rfl) (by kernel_rfl) (by kernel_rfl) (by kernel_rfl)
    Tryz.func94 (by kernel_rfl) (by kernel_rfl) (by kernel_rfl) (by kernel_rfl)
noncomputable def Tryz.xs : List (FuncId × XFn) := [(79, insK 1 8)]
noncomputable def Tryz.kx : Known := ⟨fun _ _ => none, xOf Tryz.xs⟩
theorem Tryz.kx_ok : KnOk Tryz.prog Tryz.kx := ⟨noKnV_ok, xOf_ok fun x hx => by
  simp only [Tryz.xs, List.mem_cons, List.not_mem_nil, or_false] at hx
  rcases hx with rfl
  · exact Tryz.ins79_ok⟩
end Go.Proofs
