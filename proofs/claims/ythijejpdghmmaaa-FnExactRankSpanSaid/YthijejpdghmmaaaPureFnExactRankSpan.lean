/- FnExactRankSpan: the program's RankSpan tells what the reference's tells, at every number. -/
import Derived.Test.YthijejpdghmmaaaRankS
import Derived.Test.YthijejpdghmmaaaPAx6
namespace Go.Proofs.Ythijejpdghmmaaa.Pure
open Go.RowKit Go.Proofs.Ythijejpdghmmaaa.PA Go.Proofs.YthijejpdghmmaaaW.PrintWords Go.Proofs.YthijejpdghmmaaaW.PrintLast Go.Proofs.Ythijejpdghmmaaa.Ev

theorem FnExactRankSpan : laws_FnExactRankSpan.Pure := by
  intro q _
  refine EV.get ?_
  unfold laws_FnExactRankSpan.f
  refine EV.bind (spec_RankSpan_ev q) ?_
  refine EV.bind (impl_RankSpan_ev q) ?_
  simp only [if_true]
  exact EV.pure _

end Go.Proofs.Ythijejpdghmmaaa.Pure
