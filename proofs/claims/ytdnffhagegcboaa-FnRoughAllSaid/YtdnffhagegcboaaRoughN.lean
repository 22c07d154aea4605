/- The program's RoughNew: three rows of eight noughts. No condition. -/
import Derived.Test.YtdnffhagegcboaaRoughE
import Derived.Test.YtdnffhagegcboaaPAx1
namespace Go.Proofs.Ytdnffhagegcboaa.Ev
open Go.RowKit Go.Proofs.YtdnffhagegcboaaW.PrintWords Go.Proofs.YtdnffhagegcboaaW.PrintLast Go.Proofs.Ytdnffhagegcboaa.PA

theorem impl_RoughNew_ev : EV (fun k => impl_RoughNew.f k) zeros := by
  refine ⟨4, fun k hk => ?_⟩
  obtain ⟨m, rfl⟩ : ∃ m, k = m + 4 := ⟨k - 4, by omega⟩
  show impl_RoughNew.f (m + 4) = some zeros
  simp [impl_RoughNew.f, impl_RoughNew.l0, wrap64, zeros, zero8, List.replicate]

end Go.Proofs.Ytdnffhagegcboaa.Ev
