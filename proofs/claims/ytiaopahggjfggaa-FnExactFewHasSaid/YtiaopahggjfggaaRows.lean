/-
  No cell of these rows narrows 'for every input' (looked for: loops, veiled, ifaces, maps, wideKeys, modest, calm, conditions, laid).
  DERIVED. THE GIVEN ROWS OF THIS SEAT. 12 by the template 'for every input the law returns true; each argument reads behind the call as it read before'; 0 by the template 'total and deterministic' (their statements: YtiaopahggjfggaaTotals.lean).
  GIVEN WITH THE SEED: the statements are not yours to turn. If you find one false, say at which input.
  Laid BY PROGRAM, IN A SANDBOX (cutbox-rows.mjs): the forced cells as the released guide's own fill.sh prints them over the translation 3df8907a9cc41f75… (all of the seat's roots in one cut). By AI agents, Wed Nov 11 2026. No macro, syntax, notation, axiom, sorry.
-/
import Derived.Test.YtiaopahggjfggaaChecked
import GoSem.Claim
import GoSem.ClaimJoined
import GoSem.ClaimMapViews
import Derived.JoinedTies
import Derived.KernelRfl
namespace Go.Proofs.Ytiaopahggjfggaa
/- THE CELL 'sum', in the pinned program and in every row, IS THE sha256 OF THE DUMP (.gsa) THAT YtiaopahggjfggaaProg.lean LOADS. Nothing in Lean hashes anything: it is a label: what it is worth is what the hold of that sum in a sandbox is worth. -/
noncomputable def Try.pinned : Pinned := { name := "ytiaopahggjfggaa", sum := "3df8907a9cc41f7581e730ab53553047e03080b87d359a4846a397af49e107b3", checked := Try.checked }
namespace Rows
def none {H : Type} : Left H := { results := [], args := [] }

/-- 'laws.FnExactFewMark': WHATEVER THE INPUT: true; the input reads as it did. -/
def fnExactFewMarkSpec : ChangeSpec := { name := "fnExactFewMark", fn := fun _ => fun
  | [d] => { results := [.lit (.bool true)], args := [d] }
  | _ => none }
def fnExactFewMarkRow : OpenClaim := { program := "ytiaopahggjfggaa", sum := "3df8907a9cc41f7581e730ab53553047e03080b87d359a4846a397af49e107b3", func := "loop.example/inkling/laws.FnExactFewMark", spec := "fnExactFewMark", apart := false }
def FnExactFewMarkSaid : Prop := fnExactFewMarkRow.holds Try.pinned (OpenSpec.ofChange fnExactFewMarkSpec)

/-- ITS FALSE NEIGHBOUR: 'it returns false'. Refute it at one input. -/
def fnExactFewMarkWrong : ChangeSpec := { name := "fnExactFewMark", fn := fun _ => fun
  | [d] => { results := [.lit (.bool false)], args := [d] }
  | _ => none }
def FnExactFewMarkWrongFalsely : Prop := fnExactFewMarkRow.holds Try.pinned (OpenSpec.ofChange fnExactFewMarkWrong)

/-- 'laws.FnFewMark': WHATEVER THE INPUT: true; the input reads as it did. -/
def fnFewMarkSpec : ChangeSpec := { name := "fnFewMark", fn := fun _ => fun
  | [d1, d2] => { results := [.lit (.bool true)], args := [d1, d2] }
  | _ => none }
def fnFewMarkRow : OpenClaim := { program := "ytiaopahggjfggaa", sum := "3df8907a9cc41f7581e730ab53553047e03080b87d359a4846a397af49e107b3", func := "loop.example/inkling/laws.FnFewMark", spec := "fnFewMark", apart := false }
def FnFewMarkSaid : Prop := fnFewMarkRow.holds Try.pinned (OpenSpec.ofChange fnFewMarkSpec)

/-- ITS FALSE NEIGHBOUR: 'it returns false'. Refute it at one input. -/
def fnFewMarkWrong : ChangeSpec := { name := "fnFewMark", fn := fun _ => fun
  | [d1, d2] => { results := [.lit (.bool false)], args := [d1, d2] }
  | _ => none }
def FnFewMarkWrongFalsely : Prop := fnFewMarkRow.holds Try.pinned (OpenSpec.ofChange fnFewMarkWrong)

/-- 'laws.FnExactFewOk': WHATEVER THE INPUT: true; the input reads as it did. -/
def fnExactFewOkSpec : ChangeSpec := { name := "fnExactFewOk", fn := fun _ => fun
  | [d] => { results := [.lit (.bool true)], args := [d] }
  | _ => none }
def fnExactFewOkRow : OpenClaim := { program := "ytiaopahggjfggaa", sum := "3df8907a9cc41f7581e730ab53553047e03080b87d359a4846a397af49e107b3", func := "loop.example/inkling/laws.FnExactFewOk", spec := "fnExactFewOk", apart := false }
def FnExactFewOkSaid : Prop := fnExactFewOkRow.holds Try.pinned (OpenSpec.ofChange fnExactFewOkSpec)

/-- ITS FALSE NEIGHBOUR: 'it returns false'. Refute it at one input. -/
def fnExactFewOkWrong : ChangeSpec := { name := "fnExactFewOk", fn := fun _ => fun
  | [d] => { results := [.lit (.bool false)], args := [d] }
  | _ => none }
def FnExactFewOkWrongFalsely : Prop := fnExactFewOkRow.holds Try.pinned (OpenSpec.ofChange fnExactFewOkWrong)

/-- 'laws.FnExactFewCount': WHATEVER THE INPUT: true; the input reads as it did. -/
def fnExactFewCountSpec : ChangeSpec := { name := "fnExactFewCount", fn := fun _ => fun
  | [d] => { results := [.lit (.bool true)], args := [d] }
  | _ => none }
def fnExactFewCountRow : OpenClaim := { program := "ytiaopahggjfggaa", sum := "3df8907a9cc41f7581e730ab53553047e03080b87d359a4846a397af49e107b3", func := "loop.example/inkling/laws.FnExactFewCount", spec := "fnExactFewCount", apart := false }
def FnExactFewCountSaid : Prop := fnExactFewCountRow.holds Try.pinned (OpenSpec.ofChange fnExactFewCountSpec)

/-- ITS FALSE NEIGHBOUR: 'it returns false'. Refute it at one input. -/
def fnExactFewCountWrong : ChangeSpec := { name := "fnExactFewCount", fn := fun _ => fun
  | [d] => { results := [.lit (.bool false)], args := [d] }
  | _ => none }
def FnExactFewCountWrongFalsely : Prop := fnExactFewCountRow.holds Try.pinned (OpenSpec.ofChange fnExactFewCountWrong)

/-- 'laws.FnFewOk': WHATEVER THE INPUT: true; the input reads as it did. -/
def fnFewOkSpec : ChangeSpec := { name := "fnFewOk", fn := fun _ => fun
  | [d] => { results := [.lit (.bool true)], args := [d] }
  | _ => none }
def fnFewOkRow : OpenClaim := { program := "ytiaopahggjfggaa", sum := "3df8907a9cc41f7581e730ab53553047e03080b87d359a4846a397af49e107b3", func := "loop.example/inkling/laws.FnFewOk", spec := "fnFewOk", apart := false }
def FnFewOkSaid : Prop := fnFewOkRow.holds Try.pinned (OpenSpec.ofChange fnFewOkSpec)

/-- ITS FALSE NEIGHBOUR: 'it returns false'. Refute it at one input. -/
def fnFewOkWrong : ChangeSpec := { name := "fnFewOk", fn := fun _ => fun
  | [d] => { results := [.lit (.bool false)], args := [d] }
  | _ => none }
def FnFewOkWrongFalsely : Prop := fnFewOkRow.holds Try.pinned (OpenSpec.ofChange fnFewOkWrong)

/-- 'laws.FnExactTopOk': WHATEVER THE INPUT: true; the input reads as it did. -/
def fnExactTopOkSpec : ChangeSpec := { name := "fnExactTopOk", fn := fun _ => fun
  | [d] => { results := [.lit (.bool true)], args := [d] }
  | _ => none }
def fnExactTopOkRow : OpenClaim := { program := "ytiaopahggjfggaa", sum := "3df8907a9cc41f7581e730ab53553047e03080b87d359a4846a397af49e107b3", func := "loop.example/inkling/laws.FnExactTopOk", spec := "fnExactTopOk", apart := false }
def FnExactTopOkSaid : Prop := fnExactTopOkRow.holds Try.pinned (OpenSpec.ofChange fnExactTopOkSpec)

/-- ITS FALSE NEIGHBOUR: 'it returns false'. Refute it at one input. -/
def fnExactTopOkWrong : ChangeSpec := { name := "fnExactTopOk", fn := fun _ => fun
  | [d] => { results := [.lit (.bool false)], args := [d] }
  | _ => none }
def FnExactTopOkWrongFalsely : Prop := fnExactTopOkRow.holds Try.pinned (OpenSpec.ofChange fnExactTopOkWrong)

/-- 'laws.FnExactFewHas': WHATEVER THE INPUT: true; the input reads as it did. -/
def fnExactFewHasSpec : ChangeSpec := { name := "fnExactFewHas", fn := fun _ => fun
  | [d1, d2] => { results := [.lit (.bool true)], args := [d1, d2] }
  | _ => none }
def fnExactFewHasRow : OpenClaim := { program := "ytiaopahggjfggaa", sum := "3df8907a9cc41f7581e730ab53553047e03080b87d359a4846a397af49e107b3", func := "loop.example/inkling/laws.FnExactFewHas", spec := "fnExactFewHas", apart := false }
def FnExactFewHasSaid : Prop := fnExactFewHasRow.holds Try.pinned (OpenSpec.ofChange fnExactFewHasSpec)

/-- ITS FALSE NEIGHBOUR: 'it returns false'. Refute it at one input. -/
def fnExactFewHasWrong : ChangeSpec := { name := "fnExactFewHas", fn := fun _ => fun
  | [d1, d2] => { results := [.lit (.bool false)], args := [d1, d2] }
  | _ => none }
def FnExactFewHasWrongFalsely : Prop := fnExactFewHasRow.holds Try.pinned (OpenSpec.ofChange fnExactFewHasWrong)

/-- 'laws.FnFewCount': WHATEVER THE INPUT: true; the input reads as it did. -/
def fnFewCountSpec : ChangeSpec := { name := "fnFewCount", fn := fun _ => fun
  | [d] => { results := [.lit (.bool true)], args := [d] }
  | _ => none }
def fnFewCountRow : OpenClaim := { program := "ytiaopahggjfggaa", sum := "3df8907a9cc41f7581e730ab53553047e03080b87d359a4846a397af49e107b3", func := "loop.example/inkling/laws.FnFewCount", spec := "fnFewCount", apart := false }
def FnFewCountSaid : Prop := fnFewCountRow.holds Try.pinned (OpenSpec.ofChange fnFewCountSpec)

/-- ITS FALSE NEIGHBOUR: 'it returns false'. Refute it at one input. -/
def fnFewCountWrong : ChangeSpec := { name := "fnFewCount", fn := fun _ => fun
  | [d] => { results := [.lit (.bool false)], args := [d] }
  | _ => none }
def FnFewCountWrongFalsely : Prop := fnFewCountRow.holds Try.pinned (OpenSpec.ofChange fnFewCountWrong)

/-- 'laws.FnExactTopGet': WHATEVER THE INPUT: true; the input reads as it did. -/
def fnExactTopGetSpec : ChangeSpec := { name := "fnExactTopGet", fn := fun _ => fun
  | [d1, d2] => { results := [.lit (.bool true)], args := [d1, d2] }
  | _ => none }
def fnExactTopGetRow : OpenClaim := { program := "ytiaopahggjfggaa", sum := "3df8907a9cc41f7581e730ab53553047e03080b87d359a4846a397af49e107b3", func := "loop.example/inkling/laws.FnExactTopGet", spec := "fnExactTopGet", apart := false }
def FnExactTopGetSaid : Prop := fnExactTopGetRow.holds Try.pinned (OpenSpec.ofChange fnExactTopGetSpec)

/-- ITS FALSE NEIGHBOUR: 'it returns false'. Refute it at one input. -/
def fnExactTopGetWrong : ChangeSpec := { name := "fnExactTopGet", fn := fun _ => fun
  | [d1, d2] => { results := [.lit (.bool false)], args := [d1, d2] }
  | _ => none }
def FnExactTopGetWrongFalsely : Prop := fnExactTopGetRow.holds Try.pinned (OpenSpec.ofChange fnExactTopGetWrong)

/-- 'laws.FnFewHasAll': WHATEVER THE INPUT: true; the input reads as it did. -/
def fnFewHasAllSpec : ChangeSpec := { name := "fnFewHasAll", fn := fun _ => fun
  | [d] => { results := [.lit (.bool true)], args := [d] }
  | _ => none }
def fnFewHasAllRow : OpenClaim := { program := "ytiaopahggjfggaa", sum := "3df8907a9cc41f7581e730ab53553047e03080b87d359a4846a397af49e107b3", func := "loop.example/inkling/laws.FnFewHasAll", spec := "fnFewHasAll", apart := false }
def FnFewHasAllSaid : Prop := fnFewHasAllRow.holds Try.pinned (OpenSpec.ofChange fnFewHasAllSpec)

/-- ITS FALSE NEIGHBOUR: 'it returns false'. Refute it at one input. -/
def fnFewHasAllWrong : ChangeSpec := { name := "fnFewHasAll", fn := fun _ => fun
  | [d] => { results := [.lit (.bool false)], args := [d] }
  | _ => none }
def FnFewHasAllWrongFalsely : Prop := fnFewHasAllRow.holds Try.pinned (OpenSpec.ofChange fnFewHasAllWrong)

/-- 'laws.FnTopOk': WHATEVER THE INPUT: true; the input reads as it did. -/
def fnTopOkSpec : ChangeSpec := { name := "fnTopOk", fn := fun _ => fun
  | [d] => { results := [.lit (.bool true)], args := [d] }
  | _ => none }
def fnTopOkRow : OpenClaim := { program := "ytiaopahggjfggaa", sum := "3df8907a9cc41f7581e730ab53553047e03080b87d359a4846a397af49e107b3", func := "loop.example/inkling/laws.FnTopOk", spec := "fnTopOk", apart := false }
def FnTopOkSaid : Prop := fnTopOkRow.holds Try.pinned (OpenSpec.ofChange fnTopOkSpec)

/-- ITS FALSE NEIGHBOUR: 'it returns false'. Refute it at one input. -/
def fnTopOkWrong : ChangeSpec := { name := "fnTopOk", fn := fun _ => fun
  | [d] => { results := [.lit (.bool false)], args := [d] }
  | _ => none }
def FnTopOkWrongFalsely : Prop := fnTopOkRow.holds Try.pinned (OpenSpec.ofChange fnTopOkWrong)

/-- 'laws.FnTopGetOne': WHATEVER THE INPUT: true; the input reads as it did. -/
def fnTopGetOneSpec : ChangeSpec := { name := "fnTopGetOne", fn := fun _ => fun
  | [d] => { results := [.lit (.bool true)], args := [d] }
  | _ => none }
def fnTopGetOneRow : OpenClaim := { program := "ytiaopahggjfggaa", sum := "3df8907a9cc41f7581e730ab53553047e03080b87d359a4846a397af49e107b3", func := "loop.example/inkling/laws.FnTopGetOne", spec := "fnTopGetOne", apart := false }
def FnTopGetOneSaid : Prop := fnTopGetOneRow.holds Try.pinned (OpenSpec.ofChange fnTopGetOneSpec)

/-- ITS FALSE NEIGHBOUR: 'it returns false'. Refute it at one input. -/
def fnTopGetOneWrong : ChangeSpec := { name := "fnTopGetOne", fn := fun _ => fun
  | [d] => { results := [.lit (.bool false)], args := [d] }
  | _ => none }
def FnTopGetOneWrongFalsely : Prop := fnTopGetOneRow.holds Try.pinned (OpenSpec.ofChange fnTopGetOneWrong)

/- THE SECOND FORM. 'bulk': how many values and letters a reading holds, each counted each time it is reached (what is shared counts as often as it is met; a slice's spare places count too). A statement '..UptoSaid' is the law's where the arguments, and the package variables that the reading takes, are together of bulk at most 1048576: NARROWER than '..Said'. Prove '..Said' where nothing that the law and all that it calls make is longer than what came in: it says more and counts as full. Else prove '..UptoSaid'. A law counts once. -/
mutual
def uptoBulk {H : Type} : DataW H → Nat
  | .lit (.string bytes) => bytes.length + 1
  | .lit _ => 1
  | .nil => 1
  | .ptr d => uptoBulk d + 1
  | .slice elems spare => uptoBulkAll elems + uptoBulkAll spare + 1
  | .agg parts => uptoBulkAll parts + 1
  | .iface _ d => uptoBulk d + 1
  | .map entries => uptoBulkEntries entries + 1
  | .held _ => 1
def uptoBulkAll {H : Type} : List (DataW H) → Nat
  | [] => 0
  | d :: r => uptoBulk d + uptoBulkAll r
def uptoBulkEntries {H : Type} : List (Lit × DataW H) → Nat
  | [] => 0
  | x :: r => uptoBulkEntry x + uptoBulkEntries r
def uptoBulkEntry {H : Type} : Lit × DataW H → Nat
  | (.string bytes, d) => bytes.length + uptoBulk d + 1
  | (_, d) => uptoBulk d + 1
 end
def uptoSmall : (H : Type) → List (DataW H) → Bool := fun _ ds => decide (uptoBulkAll ds ≤ 1048576)
def OpenSpec.upto (s : _root_.Go.ChangeSpec) : _root_.Go.OpenSpec := { _root_.Go.OpenSpec.ofChange s with cond := some uptoSmall }

/-- 'laws.FnExactFewMark', WHERE WHAT IT READS IS OF BULK AT MOST 1048576: true; the input reads as it did. -/
def fnExactFewMarkUptoRow : OpenClaim := { program := "ytiaopahggjfggaa", sum := "3df8907a9cc41f7581e730ab53553047e03080b87d359a4846a397af49e107b3", func := "loop.example/inkling/laws.FnExactFewMark", spec := "fnExactFewMark", apart := false, narrowed := true }
def FnExactFewMarkUptoSaid : Prop := fnExactFewMarkUptoRow.holds Try.pinned (OpenSpec.upto fnExactFewMarkSpec)

/-- 'laws.FnFewMark', WHERE WHAT IT READS IS OF BULK AT MOST 1048576: true; the input reads as it did. -/
def fnFewMarkUptoRow : OpenClaim := { program := "ytiaopahggjfggaa", sum := "3df8907a9cc41f7581e730ab53553047e03080b87d359a4846a397af49e107b3", func := "loop.example/inkling/laws.FnFewMark", spec := "fnFewMark", apart := false, narrowed := true }
def FnFewMarkUptoSaid : Prop := fnFewMarkUptoRow.holds Try.pinned (OpenSpec.upto fnFewMarkSpec)

/-- 'laws.FnExactFewOk', WHERE WHAT IT READS IS OF BULK AT MOST 1048576: true; the input reads as it did. -/
def fnExactFewOkUptoRow : OpenClaim := { program := "ytiaopahggjfggaa", sum := "3df8907a9cc41f7581e730ab53553047e03080b87d359a4846a397af49e107b3", func := "loop.example/inkling/laws.FnExactFewOk", spec := "fnExactFewOk", apart := false, narrowed := true }
def FnExactFewOkUptoSaid : Prop := fnExactFewOkUptoRow.holds Try.pinned (OpenSpec.upto fnExactFewOkSpec)

/-- 'laws.FnExactFewCount', WHERE WHAT IT READS IS OF BULK AT MOST 1048576: true; the input reads as it did. -/
def fnExactFewCountUptoRow : OpenClaim := { program := "ytiaopahggjfggaa", sum := "3df8907a9cc41f7581e730ab53553047e03080b87d359a4846a397af49e107b3", func := "loop.example/inkling/laws.FnExactFewCount", spec := "fnExactFewCount", apart := false, narrowed := true }
def FnExactFewCountUptoSaid : Prop := fnExactFewCountUptoRow.holds Try.pinned (OpenSpec.upto fnExactFewCountSpec)

/-- 'laws.FnFewOk', WHERE WHAT IT READS IS OF BULK AT MOST 1048576: true; the input reads as it did. -/
def fnFewOkUptoRow : OpenClaim := { program := "ytiaopahggjfggaa", sum := "3df8907a9cc41f7581e730ab53553047e03080b87d359a4846a397af49e107b3", func := "loop.example/inkling/laws.FnFewOk", spec := "fnFewOk", apart := false, narrowed := true }
def FnFewOkUptoSaid : Prop := fnFewOkUptoRow.holds Try.pinned (OpenSpec.upto fnFewOkSpec)

/-- 'laws.FnExactTopOk', WHERE WHAT IT READS IS OF BULK AT MOST 1048576: true; the input reads as it did. -/
def fnExactTopOkUptoRow : OpenClaim := { program := "ytiaopahggjfggaa", sum := "3df8907a9cc41f7581e730ab53553047e03080b87d359a4846a397af49e107b3", func := "loop.example/inkling/laws.FnExactTopOk", spec := "fnExactTopOk", apart := false, narrowed := true }
def FnExactTopOkUptoSaid : Prop := fnExactTopOkUptoRow.holds Try.pinned (OpenSpec.upto fnExactTopOkSpec)

/-- 'laws.FnExactFewHas', WHERE WHAT IT READS IS OF BULK AT MOST 1048576: true; the input reads as it did. -/
def fnExactFewHasUptoRow : OpenClaim := { program := "ytiaopahggjfggaa", sum := "3df8907a9cc41f7581e730ab53553047e03080b87d359a4846a397af49e107b3", func := "loop.example/inkling/laws.FnExactFewHas", spec := "fnExactFewHas", apart := false, narrowed := true }
def FnExactFewHasUptoSaid : Prop := fnExactFewHasUptoRow.holds Try.pinned (OpenSpec.upto fnExactFewHasSpec)

/-- 'laws.FnFewCount', WHERE WHAT IT READS IS OF BULK AT MOST 1048576: true; the input reads as it did. -/
def fnFewCountUptoRow : OpenClaim := { program := "ytiaopahggjfggaa", sum := "3df8907a9cc41f7581e730ab53553047e03080b87d359a4846a397af49e107b3", func := "loop.example/inkling/laws.FnFewCount", spec := "fnFewCount", apart := false, narrowed := true }
def FnFewCountUptoSaid : Prop := fnFewCountUptoRow.holds Try.pinned (OpenSpec.upto fnFewCountSpec)

/-- 'laws.FnExactTopGet', WHERE WHAT IT READS IS OF BULK AT MOST 1048576: true; the input reads as it did. -/
def fnExactTopGetUptoRow : OpenClaim := { program := "ytiaopahggjfggaa", sum := "3df8907a9cc41f7581e730ab53553047e03080b87d359a4846a397af49e107b3", func := "loop.example/inkling/laws.FnExactTopGet", spec := "fnExactTopGet", apart := false, narrowed := true }
def FnExactTopGetUptoSaid : Prop := fnExactTopGetUptoRow.holds Try.pinned (OpenSpec.upto fnExactTopGetSpec)

/-- 'laws.FnFewHasAll', WHERE WHAT IT READS IS OF BULK AT MOST 1048576: true; the input reads as it did. -/
def fnFewHasAllUptoRow : OpenClaim := { program := "ytiaopahggjfggaa", sum := "3df8907a9cc41f7581e730ab53553047e03080b87d359a4846a397af49e107b3", func := "loop.example/inkling/laws.FnFewHasAll", spec := "fnFewHasAll", apart := false, narrowed := true }
def FnFewHasAllUptoSaid : Prop := fnFewHasAllUptoRow.holds Try.pinned (OpenSpec.upto fnFewHasAllSpec)

/-- 'laws.FnTopOk', WHERE WHAT IT READS IS OF BULK AT MOST 1048576: true; the input reads as it did. -/
def fnTopOkUptoRow : OpenClaim := { program := "ytiaopahggjfggaa", sum := "3df8907a9cc41f7581e730ab53553047e03080b87d359a4846a397af49e107b3", func := "loop.example/inkling/laws.FnTopOk", spec := "fnTopOk", apart := false, narrowed := true }
def FnTopOkUptoSaid : Prop := fnTopOkUptoRow.holds Try.pinned (OpenSpec.upto fnTopOkSpec)

/-- 'laws.FnTopGetOne', WHERE WHAT IT READS IS OF BULK AT MOST 1048576: true; the input reads as it did. -/
def fnTopGetOneUptoRow : OpenClaim := { program := "ytiaopahggjfggaa", sum := "3df8907a9cc41f7581e730ab53553047e03080b87d359a4846a397af49e107b3", func := "loop.example/inkling/laws.FnTopGetOne", spec := "fnTopGetOne", apart := false, narrowed := true }
def FnTopGetOneUptoSaid : Prop := fnTopGetOneUptoRow.holds Try.pinned (OpenSpec.upto fnTopGetOneSpec)

end Rows
end Go.Proofs.Ytiaopahggjfggaa
