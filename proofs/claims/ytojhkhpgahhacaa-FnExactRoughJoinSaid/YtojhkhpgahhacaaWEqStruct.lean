-- What print.sh printed, cut down by a program of this session (wip/tools/prune.py): the theorems that nothing here names are left out.
import Derived.Test.YtojhkhpgahhacaaWWords
import Derived.Laws.StructEq
namespace Go.Proofs.YtojhkhpgahhacaaW.PrintWords
open Go.RowKit
section
variable {P : Program} {d : Nat} {xs ys : Array Value} {f : Field} {fs : List Field} {a b : Value} {r s : Bool} {w : World}
end
end Go.Proofs.YtojhkhpgahhacaaW.PrintWords
