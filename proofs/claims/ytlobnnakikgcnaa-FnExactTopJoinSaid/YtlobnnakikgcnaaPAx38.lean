-- Made by a program of this session (wip/tools/pr2.sh) out of the translation, by way of the printer: shared by the seat's laws.
import Derived.Test.YtlobnnakikgcnaaPAx0
import Derived.Test.YtlobnnakikgcnaaHTop
namespace Go.Proofs.Ytlobnnakikgcnaa.PA
open Go.RowKit Go.Proofs.YtlobnnakikgcnaaW.PrintWords Go.Proofs.YtlobnnakikgcnaaW.PrintLast Go.Proofs.YtlobnnakikgcnaaW.PrintMore
attribute [local go_sem] max2_int min2_int max_two min_two max_three min_three max_four min_four   -- for this text's walks alone
set_option linter.unusedVariables false
set_option linter.unusedSimpArgs false

/-! ### impl_sortPairs: function 45 -/
def impl_sortPairs.f (k : Nat) (l0 : List (S54)) (a1 : Int) : Option ((List (S54))) := Go.Proofs.Ytlobnnakikgcnaa.H.sortP l0 a1
theorem impl_sortPairs.mono : ∀ l0 a1 k, LeO (impl_sortPairs.f k l0 a1) (impl_sortPairs.f (k + 1) l0 a1) := by
  intro l0 a1 k
  exact LeO.refl _
theorem impl_sortPairs.calls (k : Nat) (P0_ : Nat → Prop) (u9000_ : Value) (l0 : List (S54)) (a1 : Int) (r : List (S54)) (w0 w : World) (hB : Below w0.heap.size w0 w) (ho0 : Kd.R k54 54 w w0.heap.size P0_ u9000_ l0) (h : impl_sortPairs.f k l0 a1 = some r) :
    Calls Try.prog 45 #[u9000_, .int .i64 a1] w fun e w' => e = .returned (.tuple #[]) ∧ Kd.R k54 54 w' w0.heap.size P0_ u9000_ r ∧ Below w0.heap.size w0 w' ∧ Kept w w' (fun k_ => P0_ k_) := by
  exact Go.Proofs.Ytlobnnakikgcnaa.H.sort_calls k P0_ u9000_ l0 a1 r w0 w hB ho0 h

end Go.Proofs.Ytlobnnakikgcnaa.PA
