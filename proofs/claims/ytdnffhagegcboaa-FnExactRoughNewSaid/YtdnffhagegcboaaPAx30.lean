-- Made by a program of this session (wip/tools/pr2.sh) out of the translation, by way of the printer: shared by the seat's laws.
import Derived.Test.YtdnffhagegcboaaPAx0
import Derived.Test.YtdnffhagegcboaaHMark
namespace Go.Proofs.Ytdnffhagegcboaa.PA
open Go.RowKit Go.Proofs.YtdnffhagegcboaaW.PrintWords Go.Proofs.YtdnffhagegcboaaW.PrintLast Go.Proofs.YtdnffhagegcboaaW.PrintMore
attribute [local go_sem] max2_int min2_int max_two min_two max_three min_three max_four min_four   -- for this text's walks alone
set_option linter.unusedVariables false
set_option linter.unusedSimpArgs false

/-! ### laws_markRough: function 17 -/
def laws_markRough.f (k : Nat) (l0_0 : List (List Int)) (a1 : Int) : Option (Int × (List (List Int))) := Go.Proofs.Ytdnffhagegcboaa.H.markRough.f k l0_0 a1
theorem laws_markRough.mono : ∀ l0_0 a1 k, LeO (laws_markRough.f k l0_0 a1) (laws_markRough.f (k + 1) l0_0 a1) := by
  intro l0_0 a1 k
  exact Go.Proofs.Ytdnffhagegcboaa.H.markRough.mono _ _ _
theorem laws_markRough.calls (k : Nat) (P0_0_ : Nat → Prop) (u9000_ : Value) (l0_0 : List (List Int)) (a1 : Int) (r1 : Int) (r2 : List (List Int)) (w0 w : World) (hB : Below w0.heap.size w0 w) (ho0_0 : Kd.S (Kd.slice 3 (Kd.int .i64)) 42 w w0.heap.size P0_0_ u9000_ l0_0) (h : laws_markRough.f k l0_0 a1 = some (r1, r2)) :
    Calls Try.prog 17 #[.agg #[u9000_], .int .i64 a1] w fun e w' => e = .returned (.int .i64 r1) ∧ Kd.S (Kd.slice 3 (Kd.int .i64)) 42 w' w0.heap.size P0_0_ u9000_ r2 ∧ Below w0.heap.size w0 w' ∧ Kept w w' (fun k_ => P0_0_ k_) := by
  exact Go.Proofs.Ytdnffhagegcboaa.H.markRough.calls k P0_0_ u9000_ l0_0 a1 r1 r2 w0 w hB ho0_0 h

end Go.Proofs.Ytdnffhagegcboaa.PA
