-- What print.sh printed, cut down by a program of this session (wip/tools/prune.py): the theorems that nothing here names are left out.
import Derived.Test.YtojhkhpgahhacaaWInv
import Derived.Test.YtojhkhpgahhacaaWFootNe
namespace Go.Proofs.YtojhkhpgahhacaaW.PrintWords
open Go.RowKit
end Go.Proofs.YtojhkhpgahhacaaW.PrintWords
namespace Go.Proofs.YtojhkhpgahhacaaW.PrintLast
section
variable {ops : Array Oper} {a : Act} {o og : Oper} {g : Nat} {t : Tmp} {u : Bool}
end
end Go.Proofs.YtojhkhpgahhacaaW.PrintLast
