/- slices.Insert is known: what it answers, by the library's own body. No condition. -/
import Derived.Test.YtegdfgoanklohaaAd
import Derived.Test.YtegdfgoanklohaaProg
import Derived.KernelRfl
set_option linter.unusedVariables false
set_option maxRecDepth 100000
namespace Go.Proofs
open Go.Abs
variable [Tok]
noncomputable def Try.ins73 : Go.Shelf.Ren := ⟨fun n => match n with | 22 => 73 | 29 => 82 | 30 => 83 | _ => 0, fun n => match n with | 3 => 3 | 4 => 4 | 9 => 3 | 24 => 29 | _ => 0, fun n => n⟩
theorem Try.ins73_ok : XEnt Try.prog 73 (insK 1 8) :=
  insX_ok (ν := Try.ins73) (nm := Try.f73.name) (fo := Try.f82) (by kernel_rfl) (Try.func73.trans (congrArg some (by kernel_rfl))) (by kernel_rfl) (by kernel_rfl) (by kernel_rfl) (by kernel_rfl) (by kernel_rfl) (by kernel_rfl) (by kernel_rfl)
    Try.func82 (by kernel_rfl) (by kernel_rfl) (by kernel_rfl) (by kernel_rfl)
noncomputable def Try.xs : List (FuncId × XFn) := [(73, insK 1 8)]
noncomputable def Try.kx : Known := ⟨fun _ _ => none, xOf Try.xs⟩
theorem Try.kx_ok : KnOk Try.prog Try.kx := ⟨noKnV_ok, xOf_ok fun x hx => by
  simp only [Try.xs, List.mem_cons, List.not_mem_nil, or_false] at hx
  rcases hx with rfl
  · exact Try.ins73_ok⟩
end Go.Proofs
