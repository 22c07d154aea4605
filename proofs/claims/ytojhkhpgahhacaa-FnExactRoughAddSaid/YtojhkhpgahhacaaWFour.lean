-- What print.sh printed, cut down by a program of this session (wip/tools/prune.py): the theorems that nothing here names are left out.
import Derived.Test.YtojhkhpgahhacaaWTab
namespace Go.Proofs.YtojhkhpgahhacaaW.PrintLast
section
variable {P : Program} {ops : Array Oper} {Q : Exit → Act → World → Prop} {md : Region.Mode} {S : World → Prop} {ds : List Nat} {T : Bool × List (List Nat × List Nat)}
end
end Go.Proofs.YtojhkhpgahhacaaW.PrintLast
