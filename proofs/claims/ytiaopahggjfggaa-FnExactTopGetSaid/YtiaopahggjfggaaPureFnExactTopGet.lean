/- FnExactTopGet: the program's TopGet tells what the reference's tells, of all tops and things. -/
import Derived.Test.YtiaopahggjfggaaTopX
import Derived.Test.YtiaopahggjfggaaTopG
import Derived.Test.YtiaopahggjfggaaPAx47
namespace Go.Proofs.Ytiaopahggjfggaa.Pure
open Go.RowKit Go.Proofs.Ytiaopahggjfggaa.PA Go.Proofs.YtiaopahggjfggaaW.PrintWords Go.Proofs.YtiaopahggjfggaaW.PrintLast Go.Proofs.Ytiaopahggjfggaa.Ev

theorem FnExactTopGet (l : List S82) (x y u : Int) (hl : l.length ≤ 9223372036854775807) : ∃ k, laws_FnExactTopGet.f k l x y u = some true := by
  refine EV.get ?_
  unfold laws_FnExactTopGet.f
  rw [szTop_eq l x y 1048576 (by omega) (by omega) hl]
  simp only [Option.bind_some]
  by_cases c : (1048576 : Int) < l.length
  · simp only [if_pos c, if_pos (show (-1 : Int) < 0 by omega)]
    exact EV.pure _
  · simp only [if_neg c, if_neg (show ¬ (1048576 : Int) - l.length < 0 by omega)]
    have hm : (l.map toP).length = l.length := by simp
    have t := toTop_ev l x y (by omega)
    refine EV.bind t (EV.bind (spec_TopGet_ev (l.map toP) x y u (by omega)) (EV.bind t (EV.bind (impl_TopGet_ev (l.map toP) x y u) ?_)))
    simp only [if_true, bne_self_eq_false]
    refine EV.succ ?_
    simp only [laws_FnExactTopGet.j0, Bool.false_eq_true, if_false]
    refine EV.bind t (EV.bind (eqTop_ev (l.map toP) x y (by omega)) ?_)
    simp only [if_true]
    exact EV.pure _

end Go.Proofs.Ytiaopahggjfggaa.Pure
