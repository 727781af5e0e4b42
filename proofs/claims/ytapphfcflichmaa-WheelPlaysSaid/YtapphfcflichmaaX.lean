/- slices.Insert is known: what it answers, by the library's own body. No condition. -/
import Derived.Test.YtapphfcflichmaaAd
import Derived.Test.YtapphfcflichmaaProg
import Derived.KernelRfl
set_option linter.unusedVariables false
set_option maxRecDepth 100000
namespace Go.Proofs
open Go.Abs
variable [Tok]
noncomputable def Try.ins92 : Go.Shelf.Ren := ⟨fun n => match n with | 22 => 92 | 29 => 125 | 30 => 126 | _ => 0, fun n => match n with | 3 => 3 | 4 => 4 | 9 => 87 | 24 => 76 | _ => 0, fun n => n⟩
theorem Try.ins92_ok : XEnt Try.prog 92 (insK 2 16) :=
  insX_ok (ν := Try.ins92) (nm := Try.f92.name) (fo := Try.f125) (by kernel_rfl) (Try.func92.trans (congrArg some (by kernel_rfl))) (by kernel_rfl) (by kernel_rfl) (by kernel_rfl) (by kernel_rfl) (by kernel_rfl) (by kernel_rfl) (by kernel_rfl)
    Try.func125 (by kernel_rfl) (by kernel_rfl) (by kernel_rfl) (by kernel_rfl)
noncomputable def Try.ins151 : Go.Shelf.Ren := ⟨fun n => match n with | 22 => 151 | 29 => 165 | 30 => 166 | _ => 0, fun n => match n with | 3 => 3 | 4 => 4 | 9 => 3 | 24 => 48 | _ => 0, fun n => n⟩
theorem Try.ins151_ok : XEnt Try.prog 151 (insK 1 8) :=
  insX_ok (ν := Try.ins151) (nm := Try.f151.name) (fo := Try.f165) (by kernel_rfl) (Try.func151.trans (congrArg some (by kernel_rfl))) (by kernel_rfl) (by kernel_rfl) (by kernel_rfl) (by kernel_rfl) (by kernel_rfl) (by kernel_rfl) (by kernel_rfl)
    Try.func165 (by kernel_rfl) (by kernel_rfl) (by kernel_rfl) (by kernel_rfl)
noncomputable def Try.xs : List (FuncId × XFn) := [(92, insK 2 16), (151, insK 1 8)]
noncomputable def Try.kx : Known := ⟨fun _ _ => none, xOf Try.xs⟩
theorem Try.kx_ok : KnOk Try.prog Try.kx := ⟨noKnV_ok, xOf_ok fun x hx => by
  simp only [Try.xs, List.mem_cons, List.not_mem_nil, or_false] at hx
  rcases hx with rfl | rfl
  · exact Try.ins92_ok
  · exact Try.ins151_ok⟩
end Go.Proofs
