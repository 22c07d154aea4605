/- The draw of marks and a thing tells something for every code. No condition. -/
import Derived.Test.YtnolipncjjclcaaFewB
import Derived.Test.YtnolipncjjclcaaPAx19
namespace Go.Proofs.Ytnolipncjjclcaa.Ev
open Go.RowKit Go.Proofs.YtnolipncjjclcaaW.PrintWords Go.Proofs.YtnolipncjjclcaaW.PrintLast Go.Proofs.Ytnolipncjjclcaa.PA

theorem drawFewAdd_tot (l : List Int) (h : ∀ x ∈ l, (Lit.int .u8 x).wf = true) : Tot (fun k => spec_DrawFewAdd.f k l) (fun r => r.1.length ≤ 7) := by
  obtain ⟨b, hb, e⟩ := open_ev l h
  simp only [spec_DrawFewAdd.f, e, Option.bind_some]
  refine Tot.bind (l71Few_tot hb (by omega) (by omega)) ?_
  rintro ⟨f, q⟩ ⟨h0, h1, h2⟩
  simp only at h0 h1 h2
  refine Tot.bind (thing_tot (p := q) hb h1 (by omega)) ?_
  intro _ _
  exact Tot.pure _ h0

end Go.Proofs.Ytnolipncjjclcaa.Ev
