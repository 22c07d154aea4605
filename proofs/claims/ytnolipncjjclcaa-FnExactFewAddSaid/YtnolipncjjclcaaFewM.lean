/- Two ascending lists of marks merged, the least first, each once. No condition. -/
import Derived.Test.YtnolipncjjclcaaEv
namespace Go.Proofs.Ytnolipncjjclcaa.Ev
open Go.RowKit Go.Proofs.YtnolipncjjclcaaW.PrintWords Go.Proofs.YtnolipncjjclcaaW.PrintLast

/-- The marks of both, the least first, each once. -/
def mrg : List Int → List Int → List Int
  | [], [] => []
  | [], y :: l2 => y :: mrg [] l2
  | x :: l1, [] => x :: mrg l1 []
  | x :: l1, y :: l2 => if x < y then x :: mrg l1 (y :: l2) else if y < x then y :: mrg (x :: l1) l2 else x :: mrg l1 l2
termination_by l1 l2 => l1.length + l2.length
theorem mrg_nil_r : ∀ l : List Int, mrg l [] = l
  | [] => by simp [mrg]
  | x :: l => by
    rw [mrg, mrg_nil_r l]
theorem mrg_nil_l : ∀ l : List Int, mrg [] l = l
  | [] => by simp [mrg]
  | x :: l => by
    rw [mrg, mrg_nil_l l]
theorem mrg_lt {x y : Int} {l1 l2 : List Int} (h : x < y) : mrg (x :: l1) (y :: l2) = x :: mrg l1 (y :: l2) := by
  rw [mrg, if_pos h]
theorem mrg_gt {x y : Int} {l1 l2 : List Int} (h : y < x) : mrg (x :: l1) (y :: l2) = y :: mrg (x :: l1) l2 := by
  rw [mrg, if_neg (show ¬ x < y by omega), if_pos h]
theorem mrg_eq (x : Int) (l1 l2 : List Int) : mrg (x :: l1) (x :: l2) = x :: mrg l1 l2 := by
  rw [mrg, if_neg (show ¬ x < x by omega), if_neg (show ¬ x < x by omega)]
/-- All are marks that the walk can tell from 64. -/
def low (l : List Int) : Bool := l.all (fun x => decide (x ≤ 63))
def fits (l : List Int) : Bool := decide (l.length ≤ 6) && low l
/-- What leastOf computes, of at most six marks each. -/
def leastF (a b : List Int) : Option (List Int) := if (fits a && fits b) = true then some ((mrg a b).take 6) else none

end Go.Proofs.Ytnolipncjjclcaa.Ev
