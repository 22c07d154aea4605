/- FnExactTopOk: the program's TopOk tells what the reference's tells, of all tops. -/
import Derived.Test.YtiaopahggjfggaaTopX
import Derived.Test.YtiaopahggjfggaaTopA
import Derived.Test.YtiaopahggjfggaaPAx39
namespace Go.Proofs.Ytiaopahggjfggaa.Pure
open Go.RowKit Go.Proofs.Ytiaopahggjfggaa.PA Go.Proofs.YtiaopahggjfggaaW.PrintWords Go.Proofs.YtiaopahggjfggaaW.PrintLast Go.Proofs.Ytiaopahggjfggaa.Ev

theorem FnExactTopOk (l : List S82) (x y : Int) (hl : l.length ≤ 9223372036854775807) : ∃ k, laws_FnExactTopOk.f k l x y = some true := by
  refine EV.get ?_
  unfold laws_FnExactTopOk.f
  rw [szTop_eq l x y 1048576 (by omega) (by omega) hl]
  simp only [Option.bind_some]
  by_cases c : (1048576 : Int) < l.length
  · simp only [if_pos c, if_pos (show (-1 : Int) < 0 by omega)]
    exact EV.pure _
  · simp only [if_neg c, if_neg (show ¬ (1048576 : Int) - l.length < 0 by omega)]
    have hm : (l.map toP).length = l.length := by simp
    have t := toTop_ev l x y (by omega)
    refine EV.bind t (EV.bind (spec_TopOk_ev (l.map toP) x y (by omega)) (EV.bind t (EV.bind (impl_TopOk_ev (l.map toP) x y) ?_)))
    simp only [bne_self_eq_false, Bool.false_eq_true, if_false]
    refine EV.bind t (EV.bind (eqTop_ev (l.map toP) x y (by omega)) ?_)
    simp only [if_true]
    exact EV.pure _

end Go.Proofs.Ytiaopahggjfggaa.Pure
