/- The reference's RoughPlace; the drawn place. No condition. -/
import Derived.Test.YtdnffhagegcboaaRoughP
import Derived.Test.YtdnffhagegcboaaThing
import Derived.Test.YtdnffhagegcboaaPAx3
import Derived.Test.YtdnffhagegcboaaPAx10
namespace Go.Proofs.Ytdnffhagegcboaa.Ev
open Go.RowKit Go.Proofs.YtdnffhagegcboaaW.PrintWords Go.Proofs.YtdnffhagegcboaaW.PrintLast Go.Proofs.Ytdnffhagegcboaa.PA

theorem spec_place (i t : Int) : spec_RoughPlace.f i t = some (placeR i t) := by
  unfold spec_RoughPlace.f placeR
  simp only [in_eq, Option.bind_some]
  by_cases c : 0 ≤ i ∧ i ≤ 2
  · simp only [decide_eq_true c, if_true]
    by_cases d : 0 ≤ t ∧ t ≤ 63
    · simp only [decide_eq_true d, if_true, (place_at c.1 c.2 d.1 d.2).1, Option.bind_some]
      rw [if_pos ⟨c.1, c.2, d⟩]
    · simp only [decide_eq_false d, Bool.false_eq_true, if_false]
      rw [if_neg (fun h => d h.2.2)]
  · simp only [decide_eq_false c, Bool.false_eq_true, if_false]
    rw [if_neg (fun h => c ⟨h.1, h.2.1⟩)]
theorem drawPlace_tot (l : List Int) (h : ∀ x ∈ l, (Lit.int .u8 x).wf = true) : Tot (fun k => spec_DrawRoughPlace.f k l) (fun _ => True) := by
  obtain ⟨b, hb, e⟩ := open_ev l h
  simp only [spec_DrawRoughPlace.f, e, Option.bind_some]
  refine Tot.bind (pick_tot 4 hb (by omega) (by omega) (by omega)) ?_
  rintro ⟨v, q⟩ ⟨h0, h1, rfl⟩
  refine Tot.bind (pick_tot 9 hb (by omega) (by omega) (by omega)) ?_
  rintro ⟨v', q⟩ ⟨h0', h1', rfl⟩
  refine Tot.bind (thing_tot hb (by simp only; omega) (by simp only; omega)) ?_
  intro _ _
  exact Tot.pure _ trivial

end Go.Proofs.Ytdnffhagegcboaa.Ev
