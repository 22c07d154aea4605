-- Made by a program of this session (wip/tools/pr2.sh) out of the translation, by way of the printer: shared by the seat's laws.
import Derived.Test.YtojhkhpgahhacaaPAx0
namespace Go.Proofs.Ytojhkhpgahhacaa.PA
open Go.RowKit Go.Proofs.YtojhkhpgahhacaaW.PrintWords Go.Proofs.YtojhkhpgahhacaaW.PrintLast Go.Proofs.YtojhkhpgahhacaaW.PrintMore
attribute [local go_sem] max2_int min2_int max_two min_two max_three min_three max_four min_four   -- for this text's walks alone
set_option linter.unusedVariables false
set_option linter.unusedSimpArgs false

/-! ### impl_plus: function 53 -/
def impl_plus.f (a0 : Int) (a1 : Int) : Option (Int) := some (wrap64 (a0 + a1))
set_option maxHeartbeats 8000000 in
set_option maxRecDepth 100000 in
theorem impl_plus.calls (a0 : Int) (a1 : Int) (r : Int) (w : World) (h : impl_plus.f a0 a1 = some r) :
    Calls Try.prog 53 #[.int .i64 a0, .int .i64 a1] w fun e w' => e = .returned (.int .i64 r) ∧ Drawn0 w w' := by
  have H : (some (wrap64 (a0 + a1))) = some r := h
  clear h
  obtain rfl := Option.some.inj H
  go_enter Try.func53, Try.ntmps53
  go_wp2
  go_ret
  exact ⟨by first | rfl | (simp; done) | (simp [*]; done), by repeat (first | exact Drawn0.refl _ | apply Drawn0.step)⟩

end Go.Proofs.Ytojhkhpgahhacaa.PA
