/- FnExactConstants: the program's constants are the reference's. No condition. -/
import Derived.Test.YthijejpdghmmaaaPAx1
namespace Go.Proofs.Ythijejpdghmmaaa.Pure
open Go.RowKit Go.Proofs.Ythijejpdghmmaaa.PA Go.Proofs.YthijejpdghmmaaaW.PrintWords Go.Proofs.YthijejpdghmmaaaW.PrintLast

theorem FnExactConstants : laws_FnExactConstants.Pure := by
  unfold laws_FnExactConstants.Pure laws_FnExactConstants.f
  rfl

end Go.Proofs.Ythijejpdghmmaaa.Pure
