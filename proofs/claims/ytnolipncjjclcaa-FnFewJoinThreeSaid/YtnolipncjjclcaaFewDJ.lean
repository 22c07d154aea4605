/- The draw of two lists of marks tells something for every code. No condition. -/
import Derived.Test.YtnolipncjjclcaaFewB
import Derived.Test.YtnolipncjjclcaaPAx9
namespace Go.Proofs.Ytnolipncjjclcaa.Ev
open Go.RowKit Go.Proofs.YtnolipncjjclcaaW.PrintWords Go.Proofs.YtnolipncjjclcaaW.PrintLast Go.Proofs.Ytnolipncjjclcaa.PA

theorem drawFewJoin_tot (l : List Int) (h : ∀ x ∈ l, (Lit.int .u8 x).wf = true) : Tot (fun k => spec_DrawFewJoin.f k l) (fun r => r.1.length ≤ 7 ∧ r.2.length ≤ 7) := by
  obtain ⟨b, hb, e⟩ := open_ev l h
  simp only [spec_DrawFewJoin.f, e, Option.bind_some]
  refine Tot.bind (l71Few_tot hb (by omega) (by omega)) ?_
  rintro ⟨f, q⟩ ⟨h0, h1, h2⟩
  simp only at h0 h1 h2
  refine Tot.bind (l71Few_tot (p := q) hb (by omega) (by omega)) ?_
  rintro ⟨g, r⟩ ⟨h3, h4, h5⟩
  exact Tot.pure _ ⟨h0, h3⟩

end Go.Proofs.Ytnolipncjjclcaa.Ev
