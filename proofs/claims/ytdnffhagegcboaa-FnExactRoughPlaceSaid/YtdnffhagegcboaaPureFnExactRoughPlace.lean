/- FnExactRoughPlace: the program's RoughPlace tells what the reference's tells, at all rows and things. -/
import Derived.Test.YtdnffhagegcboaaRoughQ
import Derived.Test.YtdnffhagegcboaaPAx6
namespace Go.Proofs.Ytdnffhagegcboaa.Pure
open Go.RowKit Go.Proofs.Ytdnffhagegcboaa.PA Go.Proofs.YtdnffhagegcboaaW.PrintWords Go.Proofs.YtdnffhagegcboaaW.PrintLast Go.Proofs.Ytdnffhagegcboaa.Ev

theorem FnExactRoughPlace : laws_FnExactRoughPlace.Pure := by
  intro i t _ _
  unfold laws_FnExactRoughPlace.f
  rw [spec_place, impl_place]
  simp

end Go.Proofs.Ytdnffhagegcboaa.Pure
