/- The draw of a rough count and a thing tells something for every code. No condition. -/
import Derived.Test.YtdnffhagegcboaaRoughD
import Derived.Test.YtdnffhagegcboaaPAx23
namespace Go.Proofs.Ytdnffhagegcboaa.Ev
open Go.RowKit Go.Proofs.YtdnffhagegcboaaW.PrintWords Go.Proofs.YtdnffhagegcboaaW.PrintLast Go.Proofs.Ytdnffhagegcboaa.PA

theorem drawGet_tot (l : List Int) (h : ∀ x ∈ l, (Lit.int .u8 x).wf = true) : Tot (fun k => spec_DrawRoughGet.f k l) (fun _ => True) := by
  obtain ⟨b, hb, e⟩ := open_ev l h
  simp only [spec_DrawRoughGet.f, e, Option.bind_some]
  refine Tot.bind (l71Rough_tot hb (by omega) (by omega)) ?_
  rintro ⟨f, q⟩ ⟨h1, h2⟩
  simp only at h1 h2
  refine Tot.bind (thing_tot (p := q) hb h1 (by omega)) ?_
  intro _ _
  exact Tot.pure _ trivial

end Go.Proofs.Ytdnffhagegcboaa.Ev
