/- slices.Insert is known: what it answers, by the library's own body. No condition. -/
import Derived.Test.YtjhaklmbjpajnaaAd
import Derived.Test.YtjhaklmbjpajnaaProg
import Derived.KernelRfl
set_option linter.unusedVariables false
set_option maxRecDepth 100000
namespace Go.Proofs
open Go.Abs
variable [Tok]
noncomputable def Try.ins120 : Go.Shelf.Ren := ⟨fun n => match n with | 22 => 120 | 29 => 149 | 30 => 150 | _ => 0, fun n => match n with | 3 => 3 | 4 => 4 | 9 => 74 | 24 => 42 | _ => 0, fun n => n⟩
theorem Try.ins120_ok : XEnt Try.prog 120 (insK 2 16) :=
  insX_ok (ν := Try.ins120) (nm := Try.f120.name) (fo := Try.f149) (by kernel_rfl) (Try.func120.trans (congrArg some (by kernel_rfl))) (by kernel_rfl) (by kernel_rfl) (by kernel_rfl) (by kernel_rfl) (by kernel_rfl) (by kernel_rfl) (by kernel_rfl)
    Try.func149 (by kernel_rfl) (by kernel_rfl) (by kernel_rfl) (by kernel_rfl)
noncomputable def Try.ins170 : Go.Shelf.Ren := ⟨fun n => match n with | 22 => 170 | 29 => 187 | 30 => 188 | _ => 0, fun n => match n with | 3 => 3 | 4 => 4 | 9 => 3 | 24 => 68 | _ => 0, fun n => n⟩
theorem Try.ins170_ok : XEnt Try.prog 170 (insK 1 8) :=
  insX_ok (ν := Try.ins170) (nm := Try.f170.name) (fo := Try.f187) (by kernel_rfl) (Try.func170.trans (congrArg some (by kernel_rfl))) (by kernel_rfl) (by kernel_rfl) (by kernel_rfl) (by kernel_rfl) (by kernel_rfl) (by kernel_rfl) (by kernel_rfl)
    Try.func187 (by kernel_rfl) (by kernel_rfl) (by kernel_rfl) (by kernel_rfl)
noncomputable def Try.xs : List (FuncId × XFn) := [(120, insK 2 16), (170, insK 1 8)]
noncomputable def Try.kx : Known := ⟨fun _ _ => none, xOf Try.xs⟩
theorem Try.kx_ok : KnOk Try.prog Try.kx := ⟨noKnV_ok, xOf_ok fun x hx => by
  simp only [Try.xs, List.mem_cons, List.not_mem_nil, or_false] at hx
  rcases hx with rfl | rfl
  · exact Try.ins120_ok
  · exact Try.ins170_ok⟩
end Go.Proofs
