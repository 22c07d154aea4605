-- Made by a program of this session (wip/tools/pr2.sh) out of the translation, by way of the printer: shared by the seat's laws.
import Derived.Test.YtlobnnakikgcnaaPAx0
import Derived.Test.YtlobnnakikgcnaaHTop
namespace Go.Proofs.Ytlobnnakikgcnaa.PA
open Go.RowKit Go.Proofs.YtlobnnakikgcnaaW.PrintWords Go.Proofs.YtlobnnakikgcnaaW.PrintLast Go.Proofs.YtlobnnakikgcnaaW.PrintMore
attribute [local go_sem] max2_int min2_int max_two min_two max_three min_three max_four min_four   -- for this text's walks alone
set_option linter.unusedVariables false
set_option linter.unusedSimpArgs false

/-! ### impl_Pair_44: function 44 -/
def impl_Pair_44.f (l0 : List (S54)) : Option ((List (S54))) := Go.Proofs.Ytlobnnakikgcnaa.H.cloneP l0
theorem impl_Pair_44.calls (A0 : Option Addr) (c0 : Nat) (l0 : List (S54)) (r : List (S54)) (w : World) (hr0 : Kd.C k54 w A0 l0.length l0) (hc0 : l0.length ≤ c0) (h : impl_Pair_44.f l0 = some r) :
    Calls Try.prog 44 #[.slice A0 l0.length c0] w fun e w' => ∃ v0_ : Value, e = .returned (v0_) ∧ Kd.R k54 54 w' w.heap.size (fun _ => True) v0_ r ∧ Below w.heap.size w w' := by
  exact Go.Proofs.Ytlobnnakikgcnaa.H.clone_calls A0 c0 l0 r w hr0 hc0 h

end Go.Proofs.Ytlobnnakikgcnaa.PA
