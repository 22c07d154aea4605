-- What print.sh printed, cut down by a program of this session (wip/tools/prune.py): the theorems that nothing here names are left out.
import Derived.Test.YtojhkhpgahhacaaWN
namespace Go.Proofs.YtojhkhpgahhacaaW.PrintWords
open Go.RowKit
namespace Kd
section
variable {α : Type} {d : Kd α} {W : World} {g n : Nat} {S ok : Nat → Prop} {A : Option Addr} {ad : Addr} {xs : List α}
end
end Kd
end Go.Proofs.YtojhkhpgahhacaaW.PrintWords
