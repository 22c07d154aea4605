/-
  No cell of these rows narrows 'for every input' (looked for: loops, veiled, ifaces, maps, wideKeys, modest, calm, conditions, laid).
  DERIVED. THE GIVEN ROWS OF THIS SEAT. 8 by the template 'for every input the law returns true; each argument reads behind the call as it read before'; 0 by the template 'total and deterministic' (their statements: YtnolipncjjclcaaTotals.lean).
  GIVEN WITH THE SEED: the statements are not yours to turn. If you find one false, say at which input.
  Laid BY PROGRAM, IN A SANDBOX (cutbox-rows.mjs): the forced cells as the released guide's own fill.sh prints them over the translation 7ed13a45328fd68e… (all of the seat's roots in one cut). By AI agents, Wed Nov 11 2026. No macro, syntax, notation, axiom, sorry.
-/
import Derived.Test.YtnolipncjjclcaaChecked
import GoSem.Claim
import GoSem.ClaimJoined
import GoSem.ClaimMapViews
import Derived.JoinedTies
import Derived.KernelRfl
namespace Go.Proofs.Ytnolipncjjclcaa
/- THE CELL 'sum', in the pinned program and in every row, IS THE sha256 OF THE DUMP (.gsa) THAT YtnolipncjjclcaaProg.lean LOADS. Nothing in Lean hashes anything: it is a label: what it is worth is what the hold of that sum in a sandbox is worth. -/
noncomputable def Try.pinned : Pinned := { name := "ytnolipncjjclcaa", sum := "7ed13a45328fd68ee43bcad44a20b0c0c6770cda4fa6359832d143754e79ad35", checked := Try.checked }
namespace Rows
def none {H : Type} : Left H := { results := [], args := [] }

/-- 'laws.FnFewJoin': WHATEVER THE INPUT: true; the input reads as it did. -/
def fnFewJoinSpec : ChangeSpec := { name := "fnFewJoin", fn := fun _ => fun
  | [d] => { results := [.lit (.bool true)], args := [d] }
  | _ => none }
def fnFewJoinRow : OpenClaim := { program := "ytnolipncjjclcaa", sum := "7ed13a45328fd68ee43bcad44a20b0c0c6770cda4fa6359832d143754e79ad35", func := "loop.example/inkling/laws.FnFewJoin", spec := "fnFewJoin", unfollowed := true, recurses := true, apart := false }
def FnFewJoinSaid : Prop := fnFewJoinRow.holds Try.pinned (OpenSpec.ofChange fnFewJoinSpec)

/-- ITS FALSE NEIGHBOUR: 'it returns false'. Refute it at one input. -/
def fnFewJoinWrong : ChangeSpec := { name := "fnFewJoin", fn := fun _ => fun
  | [d] => { results := [.lit (.bool false)], args := [d] }
  | _ => none }
def FnFewJoinWrongFalsely : Prop := fnFewJoinRow.holds Try.pinned (OpenSpec.ofChange fnFewJoinWrong)

/-- 'laws.FnFewJoinThree': WHATEVER THE INPUT: true; the input reads as it did. -/
def fnFewJoinThreeSpec : ChangeSpec := { name := "fnFewJoinThree", fn := fun _ => fun
  | [d1, d2] => { results := [.lit (.bool true)], args := [d1, d2] }
  | _ => none }
def fnFewJoinThreeRow : OpenClaim := { program := "ytnolipncjjclcaa", sum := "7ed13a45328fd68ee43bcad44a20b0c0c6770cda4fa6359832d143754e79ad35", func := "loop.example/inkling/laws.FnFewJoinThree", spec := "fnFewJoinThree", unfollowed := true, recurses := true, apart := false }
def FnFewJoinThreeSaid : Prop := fnFewJoinThreeRow.holds Try.pinned (OpenSpec.ofChange fnFewJoinThreeSpec)

/-- ITS FALSE NEIGHBOUR: 'it returns false'. Refute it at one input. -/
def fnFewJoinThreeWrong : ChangeSpec := { name := "fnFewJoinThree", fn := fun _ => fun
  | [d1, d2] => { results := [.lit (.bool false)], args := [d1, d2] }
  | _ => none }
def FnFewJoinThreeWrongFalsely : Prop := fnFewJoinThreeRow.holds Try.pinned (OpenSpec.ofChange fnFewJoinThreeWrong)

/-- 'laws.FnFewAdd': WHATEVER THE INPUT: true; the input reads as it did. -/
def fnFewAddSpec : ChangeSpec := { name := "fnFewAdd", fn := fun _ => fun
  | [d] => { results := [.lit (.bool true)], args := [d] }
  | _ => none }
def fnFewAddRow : OpenClaim := { program := "ytnolipncjjclcaa", sum := "7ed13a45328fd68ee43bcad44a20b0c0c6770cda4fa6359832d143754e79ad35", func := "loop.example/inkling/laws.FnFewAdd", spec := "fnFewAdd", unfollowed := true, recurses := true, apart := false }
def FnFewAddSaid : Prop := fnFewAddRow.holds Try.pinned (OpenSpec.ofChange fnFewAddSpec)

/-- ITS FALSE NEIGHBOUR: 'it returns false'. Refute it at one input. -/
def fnFewAddWrong : ChangeSpec := { name := "fnFewAdd", fn := fun _ => fun
  | [d] => { results := [.lit (.bool false)], args := [d] }
  | _ => none }
def FnFewAddWrongFalsely : Prop := fnFewAddRow.holds Try.pinned (OpenSpec.ofChange fnFewAddWrong)

/-- 'laws.FnFewAddSwap': WHATEVER THE INPUT: true; the input reads as it did. -/
def fnFewAddSwapSpec : ChangeSpec := { name := "fnFewAddSwap", fn := fun _ => fun
  | [d1, d2] => { results := [.lit (.bool true)], args := [d1, d2] }
  | _ => none }
def fnFewAddSwapRow : OpenClaim := { program := "ytnolipncjjclcaa", sum := "7ed13a45328fd68ee43bcad44a20b0c0c6770cda4fa6359832d143754e79ad35", func := "loop.example/inkling/laws.FnFewAddSwap", spec := "fnFewAddSwap", unfollowed := true, recurses := true, apart := false }
def FnFewAddSwapSaid : Prop := fnFewAddSwapRow.holds Try.pinned (OpenSpec.ofChange fnFewAddSwapSpec)

/-- ITS FALSE NEIGHBOUR: 'it returns false'. Refute it at one input. -/
def fnFewAddSwapWrong : ChangeSpec := { name := "fnFewAddSwap", fn := fun _ => fun
  | [d1, d2] => { results := [.lit (.bool false)], args := [d1, d2] }
  | _ => none }
def FnFewAddSwapWrongFalsely : Prop := fnFewAddSwapRow.holds Try.pinned (OpenSpec.ofChange fnFewAddSwapWrong)

/-- 'laws.FnExactFewJoin': WHATEVER THE INPUT: true; the input reads as it did. -/
def fnExactFewJoinSpec : ChangeSpec := { name := "fnExactFewJoin", fn := fun _ => fun
  | [d1, d2] => { results := [.lit (.bool true)], args := [d1, d2] }
  | _ => none }
def fnExactFewJoinRow : OpenClaim := { program := "ytnolipncjjclcaa", sum := "7ed13a45328fd68ee43bcad44a20b0c0c6770cda4fa6359832d143754e79ad35", func := "loop.example/inkling/laws.FnExactFewJoin", spec := "fnExactFewJoin", unfollowed := true, recurses := true, apart := false }
def FnExactFewJoinSaid : Prop := fnExactFewJoinRow.holds Try.pinned (OpenSpec.ofChange fnExactFewJoinSpec)

/-- ITS FALSE NEIGHBOUR: 'it returns false'. Refute it at one input. -/
def fnExactFewJoinWrong : ChangeSpec := { name := "fnExactFewJoin", fn := fun _ => fun
  | [d1, d2] => { results := [.lit (.bool false)], args := [d1, d2] }
  | _ => none }
def FnExactFewJoinWrongFalsely : Prop := fnExactFewJoinRow.holds Try.pinned (OpenSpec.ofChange fnExactFewJoinWrong)

/-- 'laws.FnFewKept': WHATEVER THE INPUT: true; the input reads as it did. -/
def fnFewKeptSpec : ChangeSpec := { name := "fnFewKept", fn := fun _ => fun
  | [d] => { results := [.lit (.bool true)], args := [d] }
  | _ => none }
def fnFewKeptRow : OpenClaim := { program := "ytnolipncjjclcaa", sum := "7ed13a45328fd68ee43bcad44a20b0c0c6770cda4fa6359832d143754e79ad35", func := "loop.example/inkling/laws.FnFewKept", spec := "fnFewKept", unfollowed := true, recurses := true, apart := false }
def FnFewKeptSaid : Prop := fnFewKeptRow.holds Try.pinned (OpenSpec.ofChange fnFewKeptSpec)

/-- ITS FALSE NEIGHBOUR: 'it returns false'. Refute it at one input. -/
def fnFewKeptWrong : ChangeSpec := { name := "fnFewKept", fn := fun _ => fun
  | [d] => { results := [.lit (.bool false)], args := [d] }
  | _ => none }
def FnFewKeptWrongFalsely : Prop := fnFewKeptRow.holds Try.pinned (OpenSpec.ofChange fnFewKeptWrong)

/-- 'laws.FnFewJoinHas': WHATEVER THE INPUT: true; the input reads as it did. -/
def fnFewJoinHasSpec : ChangeSpec := { name := "fnFewJoinHas", fn := fun _ => fun
  | [d] => { results := [.lit (.bool true)], args := [d] }
  | _ => none }
def fnFewJoinHasRow : OpenClaim := { program := "ytnolipncjjclcaa", sum := "7ed13a45328fd68ee43bcad44a20b0c0c6770cda4fa6359832d143754e79ad35", func := "loop.example/inkling/laws.FnFewJoinHas", spec := "fnFewJoinHas", unfollowed := true, recurses := true, apart := false }
def FnFewJoinHasSaid : Prop := fnFewJoinHasRow.holds Try.pinned (OpenSpec.ofChange fnFewJoinHasSpec)

/-- ITS FALSE NEIGHBOUR: 'it returns false'. Refute it at one input. -/
def fnFewJoinHasWrong : ChangeSpec := { name := "fnFewJoinHas", fn := fun _ => fun
  | [d] => { results := [.lit (.bool false)], args := [d] }
  | _ => none }
def FnFewJoinHasWrongFalsely : Prop := fnFewJoinHasRow.holds Try.pinned (OpenSpec.ofChange fnFewJoinHasWrong)

/-- 'laws.FnExactFewAdd': WHATEVER THE INPUT: true; the input reads as it did. -/
def fnExactFewAddSpec : ChangeSpec := { name := "fnExactFewAdd", fn := fun _ => fun
  | [d1, d2] => { results := [.lit (.bool true)], args := [d1, d2] }
  | _ => none }
def fnExactFewAddRow : OpenClaim := { program := "ytnolipncjjclcaa", sum := "7ed13a45328fd68ee43bcad44a20b0c0c6770cda4fa6359832d143754e79ad35", func := "loop.example/inkling/laws.FnExactFewAdd", spec := "fnExactFewAdd", unfollowed := true, recurses := true, apart := false }
def FnExactFewAddSaid : Prop := fnExactFewAddRow.holds Try.pinned (OpenSpec.ofChange fnExactFewAddSpec)

/-- ITS FALSE NEIGHBOUR: 'it returns false'. Refute it at one input. -/
def fnExactFewAddWrong : ChangeSpec := { name := "fnExactFewAdd", fn := fun _ => fun
  | [d1, d2] => { results := [.lit (.bool false)], args := [d1, d2] }
  | _ => none }
def FnExactFewAddWrongFalsely : Prop := fnExactFewAddRow.holds Try.pinned (OpenSpec.ofChange fnExactFewAddWrong)

/- THE SECOND FORM. 'bulk': how many values and letters a reading holds, each counted each time it is reached (what is shared counts as often as it is met; a slice's spare places count too). A statement '..UptoSaid' is the law's where the arguments, and the package variables that the reading takes, are together of bulk at most 1048576: NARROWER than '..Said'. Prove '..Said' where nothing that the law and all that it calls make is longer than what came in: it says more and counts as full. Else prove '..UptoSaid'. A law counts once. -/
mutual
def uptoBulk {H : Type} : DataW H → Nat
  | .lit (.string bytes) => bytes.length + 1
  | .lit _ => 1
  | .nil => 1
  | .ptr d => uptoBulk d + 1
  | .slice elems spare => uptoBulkAll elems + uptoBulkAll spare + 1
  | .agg parts => uptoBulkAll parts + 1
  | .iface _ d => uptoBulk d + 1
  | .map entries => uptoBulkEntries entries + 1
  | .held _ => 1
def uptoBulkAll {H : Type} : List (DataW H) → Nat
  | [] => 0
  | d :: r => uptoBulk d + uptoBulkAll r
def uptoBulkEntries {H : Type} : List (Lit × DataW H) → Nat
  | [] => 0
  | x :: r => uptoBulkEntry x + uptoBulkEntries r
def uptoBulkEntry {H : Type} : Lit × DataW H → Nat
  | (.string bytes, d) => bytes.length + uptoBulk d + 1
  | (_, d) => uptoBulk d + 1
 end
def uptoSmall : (H : Type) → List (DataW H) → Bool := fun _ ds => decide (uptoBulkAll ds ≤ 1048576)
def OpenSpec.upto (s : _root_.Go.ChangeSpec) : _root_.Go.OpenSpec := { _root_.Go.OpenSpec.ofChange s with cond := some uptoSmall }

/-- 'laws.FnFewJoin', WHERE WHAT IT READS IS OF BULK AT MOST 1048576: true; the input reads as it did. -/
def fnFewJoinUptoRow : OpenClaim := { program := "ytnolipncjjclcaa", sum := "7ed13a45328fd68ee43bcad44a20b0c0c6770cda4fa6359832d143754e79ad35", func := "loop.example/inkling/laws.FnFewJoin", spec := "fnFewJoin", unfollowed := true, recurses := true, apart := false, narrowed := true }
def FnFewJoinUptoSaid : Prop := fnFewJoinUptoRow.holds Try.pinned (OpenSpec.upto fnFewJoinSpec)

/-- 'laws.FnFewJoinThree', WHERE WHAT IT READS IS OF BULK AT MOST 1048576: true; the input reads as it did. -/
def fnFewJoinThreeUptoRow : OpenClaim := { program := "ytnolipncjjclcaa", sum := "7ed13a45328fd68ee43bcad44a20b0c0c6770cda4fa6359832d143754e79ad35", func := "loop.example/inkling/laws.FnFewJoinThree", spec := "fnFewJoinThree", unfollowed := true, recurses := true, apart := false, narrowed := true }
def FnFewJoinThreeUptoSaid : Prop := fnFewJoinThreeUptoRow.holds Try.pinned (OpenSpec.upto fnFewJoinThreeSpec)

/-- 'laws.FnFewAdd', WHERE WHAT IT READS IS OF BULK AT MOST 1048576: true; the input reads as it did. -/
def fnFewAddUptoRow : OpenClaim := { program := "ytnolipncjjclcaa", sum := "7ed13a45328fd68ee43bcad44a20b0c0c6770cda4fa6359832d143754e79ad35", func := "loop.example/inkling/laws.FnFewAdd", spec := "fnFewAdd", unfollowed := true, recurses := true, apart := false, narrowed := true }
def FnFewAddUptoSaid : Prop := fnFewAddUptoRow.holds Try.pinned (OpenSpec.upto fnFewAddSpec)

/-- 'laws.FnFewAddSwap', WHERE WHAT IT READS IS OF BULK AT MOST 1048576: true; the input reads as it did. -/
def fnFewAddSwapUptoRow : OpenClaim := { program := "ytnolipncjjclcaa", sum := "7ed13a45328fd68ee43bcad44a20b0c0c6770cda4fa6359832d143754e79ad35", func := "loop.example/inkling/laws.FnFewAddSwap", spec := "fnFewAddSwap", unfollowed := true, recurses := true, apart := false, narrowed := true }
def FnFewAddSwapUptoSaid : Prop := fnFewAddSwapUptoRow.holds Try.pinned (OpenSpec.upto fnFewAddSwapSpec)

/-- 'laws.FnExactFewJoin', WHERE WHAT IT READS IS OF BULK AT MOST 1048576: true; the input reads as it did. -/
def fnExactFewJoinUptoRow : OpenClaim := { program := "ytnolipncjjclcaa", sum := "7ed13a45328fd68ee43bcad44a20b0c0c6770cda4fa6359832d143754e79ad35", func := "loop.example/inkling/laws.FnExactFewJoin", spec := "fnExactFewJoin", unfollowed := true, recurses := true, apart := false, narrowed := true }
def FnExactFewJoinUptoSaid : Prop := fnExactFewJoinUptoRow.holds Try.pinned (OpenSpec.upto fnExactFewJoinSpec)

/-- 'laws.FnFewKept', WHERE WHAT IT READS IS OF BULK AT MOST 1048576: true; the input reads as it did. -/
def fnFewKeptUptoRow : OpenClaim := { program := "ytnolipncjjclcaa", sum := "7ed13a45328fd68ee43bcad44a20b0c0c6770cda4fa6359832d143754e79ad35", func := "loop.example/inkling/laws.FnFewKept", spec := "fnFewKept", unfollowed := true, recurses := true, apart := false, narrowed := true }
def FnFewKeptUptoSaid : Prop := fnFewKeptUptoRow.holds Try.pinned (OpenSpec.upto fnFewKeptSpec)

/-- 'laws.FnFewJoinHas', WHERE WHAT IT READS IS OF BULK AT MOST 1048576: true; the input reads as it did. -/
def fnFewJoinHasUptoRow : OpenClaim := { program := "ytnolipncjjclcaa", sum := "7ed13a45328fd68ee43bcad44a20b0c0c6770cda4fa6359832d143754e79ad35", func := "loop.example/inkling/laws.FnFewJoinHas", spec := "fnFewJoinHas", unfollowed := true, recurses := true, apart := false, narrowed := true }
def FnFewJoinHasUptoSaid : Prop := fnFewJoinHasUptoRow.holds Try.pinned (OpenSpec.upto fnFewJoinHasSpec)

/-- 'laws.FnExactFewAdd', WHERE WHAT IT READS IS OF BULK AT MOST 1048576: true; the input reads as it did. -/
def fnExactFewAddUptoRow : OpenClaim := { program := "ytnolipncjjclcaa", sum := "7ed13a45328fd68ee43bcad44a20b0c0c6770cda4fa6359832d143754e79ad35", func := "loop.example/inkling/laws.FnExactFewAdd", spec := "fnExactFewAdd", unfollowed := true, recurses := true, apart := false, narrowed := true }
def FnExactFewAddUptoSaid : Prop := fnExactFewAddUptoRow.holds Try.pinned (OpenSpec.upto fnExactFewAddSpec)

end Rows
end Go.Proofs.Ytnolipncjjclcaa
