/- FnExactFewMark: the program's FewMark tells what the reference's tells, at all numbers. -/
import Derived.Test.YtiaopahggjfggaaFewA
import Derived.Test.YtiaopahggjfggaaPAx5
namespace Go.Proofs.Ytiaopahggjfggaa.Pure
open Go.RowKit Go.Proofs.Ytiaopahggjfggaa.PA Go.Proofs.YtiaopahggjfggaaW.PrintWords Go.Proofs.YtiaopahggjfggaaW.PrintLast Go.Proofs.Ytiaopahggjfggaa.Ev

theorem FnExactFewMark : laws_FnExactFewMark.Pure := by
  intro t _
  unfold laws_FnExactFewMark.f
  rw [spec_mark, impl_mark]
  simp

end Go.Proofs.Ytiaopahggjfggaa.Pure
