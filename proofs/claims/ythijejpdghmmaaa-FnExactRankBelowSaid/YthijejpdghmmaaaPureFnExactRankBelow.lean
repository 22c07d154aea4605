/- FnExactRankBelow: the program's RankBelow tells what the reference's tells, of all ranks and numbers. -/
import Derived.Test.YthijejpdghmmaaaExRank

import Derived.Test.YthijejpdghmmaaaPAx36
namespace Go.Proofs.Ythijejpdghmmaaa.Pure
open Go.RowKit Go.Proofs.Ythijejpdghmmaaa.PA Go.Proofs.YthijejpdghmmaaaW.PrintWords Go.Proofs.YthijejpdghmmaaaW.PrintLast Go.Proofs.Ythijejpdghmmaaa.Ev

theorem FnExactRankBelow (l : List S62) (a n : Int) (hl : l.length ≤ 9223372036854775807) : ∃ k, laws_FnExactRankBelow.f k l a n = some true := by
  refine EV.get ?_
  unfold laws_FnExactRankBelow.f
  rw [szRank_eq l a hl]
  simp only [Option.bind_some]
  by_cases c : (l.length : Int) > 1048576
  · simp only [if_pos c, if_pos (show (-1 : Int) < 0 by omega)]
    exact EV.pure _
  · simp only [if_neg c, if_neg (show ¬ (1048576 : Int) - l.length < 0 by omega)]
    have hm : (l.map toK).length = l.length := by simp
    have t := toRank_ev l a (by omega)
    refine EV.bind t (EV.bind (spec_RankBelow_ev (l.map toK) a n (by omega)) (EV.bind t (EV.bind (impl_RankBelow_ev (l.map toK) a n (by omega)) ?_)))
    simp only [if_true, bne_self_eq_false]
    refine EV.succ ?_
    simp only [laws_FnExactRankBelow.j0, Bool.false_eq_true, if_false]
    refine EV.bind t (EV.bind (eqRank_ev (l.map toK) a (by omega)) ?_)
    simp only [if_true]
    exact EV.pure _

end Go.Proofs.Ythijejpdghmmaaa.Pure
