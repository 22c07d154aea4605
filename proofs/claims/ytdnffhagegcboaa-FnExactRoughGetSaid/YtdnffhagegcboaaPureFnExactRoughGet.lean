/- FnExactRoughGet: the program's RoughGet tells what the reference's tells, of all rough counts. -/
import Derived.Test.YtdnffhagegcboaaRoughX
import Derived.Test.YtdnffhagegcboaaRoughG
import Derived.Test.YtdnffhagegcboaaPAx45
namespace Go.Proofs.Ytdnffhagegcboaa.Pure
open Go.RowKit Go.Proofs.Ytdnffhagegcboaa.PA Go.Proofs.YtdnffhagegcboaaW.PrintWords Go.Proofs.YtdnffhagegcboaaW.PrintLast Go.Proofs.Ytdnffhagegcboaa.Ev

theorem FnExactRoughGet (l : List (List Int)) (u : Int) (hl : l.length ≤ 9223372036854775807) (hi : ∀ x ∈ l, x.length ≤ 9223372036854775807) : ∃ k, laws_FnExactRoughGet.f k l u = some true := by
  refine EV.get (Tot.true ?_)
  unfold laws_FnExactRoughGet.f
  refine Tot.bind (szRough_tot l 1048576 (by omega) (by omega) hl hi) ?_
  rintro r ⟨_, hr⟩
  by_cases c : r < 0
  · simp only [if_pos c]
    exact Tot.pure _ rfl
  · simp only [if_neg c]
    obtain ⟨h1, h2⟩ := hr.resolve_left c
    have t := toRough_ev l h1 h2
    have q := eqRough_ev l (by omega) (fun x hx => by have := h2 x hx; omega)
    refine Tot.of (EV.bind t (EV.bind (spec_RoughGet_ev l u) (EV.bind t (EV.bind (impl_RoughGet_ev l u) (r := true) ?_)))) rfl
    simp only [if_true]
    refine EV.bind t (EV.bind q ?_)
    simp only [if_true]
    exact EV.pure _

end Go.Proofs.Ytdnffhagegcboaa.Pure
