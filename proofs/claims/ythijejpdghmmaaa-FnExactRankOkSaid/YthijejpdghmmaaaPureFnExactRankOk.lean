/- FnExactRankOk: the program's RankOk tells what the reference's tells, of all ranks. -/
import Derived.Test.YthijejpdghmmaaaExRank
import Derived.Test.YthijejpdghmmaaaPAx22
namespace Go.Proofs.Ythijejpdghmmaaa.Pure
open Go.RowKit Go.Proofs.Ythijejpdghmmaaa.PA Go.Proofs.YthijejpdghmmaaaW.PrintWords Go.Proofs.YthijejpdghmmaaaW.PrintLast Go.Proofs.Ythijejpdghmmaaa.Ev

theorem FnExactRankOk (l : List S62) (a : Int) (hl : l.length ≤ 9223372036854775807) : ∃ k, laws_FnExactRankOk.f k l a = some true := by
  refine EV.get ?_
  unfold laws_FnExactRankOk.f
  rw [szRank_eq l a hl]
  simp only [Option.bind_some]
  by_cases c : (l.length : Int) > 1048576
  · simp only [if_pos c, if_pos (show (-1 : Int) < 0 by omega)]
    exact EV.pure _
  · simp only [if_neg c, if_neg (show ¬ (1048576 : Int) - l.length < 0 by omega)]
    have hm : (l.map toK).length = l.length := by simp
    have t := toRank_ev l a (by omega)
    refine EV.bind t (EV.bind (spec_RankOk_ev (l.map toK) a (by omega)) (EV.bind t (EV.bind (impl_RankOk_ev (l.map toK) a (by omega)) ?_)))
    simp only [bne_self_eq_false, Bool.false_eq_true, if_false]
    refine EV.bind t (EV.bind (eqRank_ev (l.map toK) a (by omega)) ?_)
    simp only [if_true]
    exact EV.pure _

end Go.Proofs.Ythijejpdghmmaaa.Pure
