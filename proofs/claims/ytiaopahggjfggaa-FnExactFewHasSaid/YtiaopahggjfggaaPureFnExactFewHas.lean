/- FnExactFewHas: the program's FewHas tells what the reference's tells, of all marks and things. -/
import Derived.Test.YtiaopahggjfggaaFewX
import Derived.Test.YtiaopahggjfggaaFewH
import Derived.Test.YtiaopahggjfggaaPAx42
namespace Go.Proofs.Ytiaopahggjfggaa.Pure
open Go.RowKit Go.Proofs.Ytiaopahggjfggaa.PA Go.Proofs.YtiaopahggjfggaaW.PrintWords Go.Proofs.YtiaopahggjfggaaW.PrintLast Go.Proofs.Ytiaopahggjfggaa.Ev

theorem FnExactFewHas (l : List Int) (u : Int) (hl : l.length ≤ 9223372036854775807) : ∃ k, laws_FnExactFewHas.f k l u = some true := by
  refine EV.get ?_
  unfold laws_FnExactFewHas.f
  rw [szFew_eq l 1048576 (by omega) (by omega) hl]
  simp only [Option.bind_some]
  by_cases c : (1048576 : Int) < l.length
  · simp only [if_pos c, if_pos (show (-1 : Int) < 0 by omega)]
    exact EV.pure _
  · simp only [if_neg c, if_neg (show ¬ (1048576 : Int) - l.length < 0 by omega)]
    have t := toFew_ev l (by omega)
    refine EV.bind t (EV.bind (spec_FewHas_ev l u (by omega)) (EV.bind t (EV.bind (impl_FewHas_ev l u (by omega)) ?_)))
    simp only [bne_self_eq_false, Bool.false_eq_true, if_false]
    refine EV.succ ?_
    simp only [laws_FnExactFewHas.j0, Bool.false_eq_true, if_false]
    refine EV.bind t (EV.bind (eqFew_ev l (by omega)) ?_)
    simp only [if_true]
    exact EV.pure _

end Go.Proofs.Ytiaopahggjfggaa.Pure
