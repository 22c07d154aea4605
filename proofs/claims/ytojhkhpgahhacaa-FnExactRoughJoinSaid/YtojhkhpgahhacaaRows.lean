/-
  No cell of these rows narrows 'for every input' (looked for: loops, veiled, ifaces, maps, wideKeys, modest, calm, conditions, laid).
  DERIVED. THE GIVEN ROWS OF THIS SEAT. 9 by the template 'for every input the law returns true; each argument reads behind the call as it read before'; 0 by the template 'total and deterministic' (their statements: YtojhkhpgahhacaaTotals.lean).
  GIVEN WITH THE SEED: the statements are not yours to turn. If you find one false, say at which input.
  Laid BY PROGRAM, IN A SANDBOX (cutbox-rows.mjs): the forced cells as the released guide's own fill.sh prints them over the translation 2adb0b801ac4e26b… (all of the seat's roots in one cut). By AI agents, Wed Nov 11 2026. No macro, syntax, notation, axiom, sorry.
-/
import Derived.Test.YtojhkhpgahhacaaChecked
import GoSem.Claim
import GoSem.ClaimJoined
import GoSem.ClaimMapViews
import Derived.JoinedTies
import Derived.KernelRfl
namespace Go.Proofs.Ytojhkhpgahhacaa
/- THE CELL 'sum', in the pinned program and in every row, IS THE sha256 OF THE DUMP (.gsa) THAT YtojhkhpgahhacaaProg.lean LOADS. Nothing in Lean hashes anything: it is a label: what it is worth is what the hold of that sum in a sandbox is worth. -/
noncomputable def Try.pinned : Pinned := { name := "ytojhkhpgahhacaa", sum := "2adb0b801ac4e26b02377d23b491d34f73d8332601a34eb11a6ef3976f73180f", checked := Try.checked }
namespace Rows
def none {H : Type} : Left H := { results := [], args := [] }

/-- 'laws.FnRoughJoinThree': WHATEVER THE INPUT: true; the input reads as it did. -/
def fnRoughJoinThreeSpec : ChangeSpec := { name := "fnRoughJoinThree", fn := fun _ => fun
  | [d1, d2] => { results := [.lit (.bool true)], args := [d1, d2] }
  | _ => none }
def fnRoughJoinThreeRow : OpenClaim := { program := "ytojhkhpgahhacaa", sum := "2adb0b801ac4e26b02377d23b491d34f73d8332601a34eb11a6ef3976f73180f", func := "loop.example/inkling/laws.FnRoughJoinThree", spec := "fnRoughJoinThree", unfollowed := true, recurses := true, apart := false }
def FnRoughJoinThreeSaid : Prop := fnRoughJoinThreeRow.holds Try.pinned (OpenSpec.ofChange fnRoughJoinThreeSpec)

/-- ITS FALSE NEIGHBOUR: 'it returns false'. Refute it at one input. -/
def fnRoughJoinThreeWrong : ChangeSpec := { name := "fnRoughJoinThree", fn := fun _ => fun
  | [d1, d2] => { results := [.lit (.bool false)], args := [d1, d2] }
  | _ => none }
def FnRoughJoinThreeWrongFalsely : Prop := fnRoughJoinThreeRow.holds Try.pinned (OpenSpec.ofChange fnRoughJoinThreeWrong)

/-- 'laws.FnRoughJoin': WHATEVER THE INPUT: true; the input reads as it did. -/
def fnRoughJoinSpec : ChangeSpec := { name := "fnRoughJoin", fn := fun _ => fun
  | [d] => { results := [.lit (.bool true)], args := [d] }
  | _ => none }
def fnRoughJoinRow : OpenClaim := { program := "ytojhkhpgahhacaa", sum := "2adb0b801ac4e26b02377d23b491d34f73d8332601a34eb11a6ef3976f73180f", func := "loop.example/inkling/laws.FnRoughJoin", spec := "fnRoughJoin", unfollowed := true, recurses := true, apart := false }
def FnRoughJoinSaid : Prop := fnRoughJoinRow.holds Try.pinned (OpenSpec.ofChange fnRoughJoinSpec)

/-- ITS FALSE NEIGHBOUR: 'it returns false'. Refute it at one input. -/
def fnRoughJoinWrong : ChangeSpec := { name := "fnRoughJoin", fn := fun _ => fun
  | [d] => { results := [.lit (.bool false)], args := [d] }
  | _ => none }
def FnRoughJoinWrongFalsely : Prop := fnRoughJoinRow.holds Try.pinned (OpenSpec.ofChange fnRoughJoinWrong)

/-- 'laws.FnRoughNew': WHATEVER THE INPUT: true; the input reads as it did. -/
def fnRoughNewSpec : ChangeSpec := { name := "fnRoughNew", fn := fun _ => fun
  | [d] => { results := [.lit (.bool true)], args := [d] }
  | _ => none }
def fnRoughNewRow : OpenClaim := { program := "ytojhkhpgahhacaa", sum := "2adb0b801ac4e26b02377d23b491d34f73d8332601a34eb11a6ef3976f73180f", func := "loop.example/inkling/laws.FnRoughNew", spec := "fnRoughNew", unfollowed := true, recurses := true, apart := false }
def FnRoughNewSaid : Prop := fnRoughNewRow.holds Try.pinned (OpenSpec.ofChange fnRoughNewSpec)

/-- ITS FALSE NEIGHBOUR: 'it returns false'. Refute it at one input. -/
def fnRoughNewWrong : ChangeSpec := { name := "fnRoughNew", fn := fun _ => fun
  | [d] => { results := [.lit (.bool false)], args := [d] }
  | _ => none }
def FnRoughNewWrongFalsely : Prop := fnRoughNewRow.holds Try.pinned (OpenSpec.ofChange fnRoughNewWrong)

/-- 'laws.FnRoughAdd': WHATEVER THE INPUT: true; the input reads as it did. -/
def fnRoughAddSpec : ChangeSpec := { name := "fnRoughAdd", fn := fun _ => fun
  | [d] => { results := [.lit (.bool true)], args := [d] }
  | _ => none }
def fnRoughAddRow : OpenClaim := { program := "ytojhkhpgahhacaa", sum := "2adb0b801ac4e26b02377d23b491d34f73d8332601a34eb11a6ef3976f73180f", func := "loop.example/inkling/laws.FnRoughAdd", spec := "fnRoughAdd", unfollowed := true, recurses := true, apart := false }
def FnRoughAddSaid : Prop := fnRoughAddRow.holds Try.pinned (OpenSpec.ofChange fnRoughAddSpec)

/-- ITS FALSE NEIGHBOUR: 'it returns false'. Refute it at one input. -/
def fnRoughAddWrong : ChangeSpec := { name := "fnRoughAdd", fn := fun _ => fun
  | [d] => { results := [.lit (.bool false)], args := [d] }
  | _ => none }
def FnRoughAddWrongFalsely : Prop := fnRoughAddRow.holds Try.pinned (OpenSpec.ofChange fnRoughAddWrong)

/-- 'laws.FnRoughAddCut': WHATEVER THE INPUT: true; the input reads as it did. -/
def fnRoughAddCutSpec : ChangeSpec := { name := "fnRoughAddCut", fn := fun _ => fun
  | [d1, d2] => { results := [.lit (.bool true)], args := [d1, d2] }
  | _ => none }
def fnRoughAddCutRow : OpenClaim := { program := "ytojhkhpgahhacaa", sum := "2adb0b801ac4e26b02377d23b491d34f73d8332601a34eb11a6ef3976f73180f", func := "loop.example/inkling/laws.FnRoughAddCut", spec := "fnRoughAddCut", unfollowed := true, recurses := true, apart := false }
def FnRoughAddCutSaid : Prop := fnRoughAddCutRow.holds Try.pinned (OpenSpec.ofChange fnRoughAddCutSpec)

/-- ITS FALSE NEIGHBOUR: 'it returns false'. Refute it at one input. -/
def fnRoughAddCutWrong : ChangeSpec := { name := "fnRoughAddCut", fn := fun _ => fun
  | [d1, d2] => { results := [.lit (.bool false)], args := [d1, d2] }
  | _ => none }
def FnRoughAddCutWrongFalsely : Prop := fnRoughAddCutRow.holds Try.pinned (OpenSpec.ofChange fnRoughAddCutWrong)

/-- 'laws.FnRoughAddSwap': WHATEVER THE INPUT: true; the input reads as it did. -/
def fnRoughAddSwapSpec : ChangeSpec := { name := "fnRoughAddSwap", fn := fun _ => fun
  | [d1, d2] => { results := [.lit (.bool true)], args := [d1, d2] }
  | _ => none }
def fnRoughAddSwapRow : OpenClaim := { program := "ytojhkhpgahhacaa", sum := "2adb0b801ac4e26b02377d23b491d34f73d8332601a34eb11a6ef3976f73180f", func := "loop.example/inkling/laws.FnRoughAddSwap", spec := "fnRoughAddSwap", unfollowed := true, recurses := true, apart := false }
def FnRoughAddSwapSaid : Prop := fnRoughAddSwapRow.holds Try.pinned (OpenSpec.ofChange fnRoughAddSwapSpec)

/-- ITS FALSE NEIGHBOUR: 'it returns false'. Refute it at one input. -/
def fnRoughAddSwapWrong : ChangeSpec := { name := "fnRoughAddSwap", fn := fun _ => fun
  | [d1, d2] => { results := [.lit (.bool false)], args := [d1, d2] }
  | _ => none }
def FnRoughAddSwapWrongFalsely : Prop := fnRoughAddSwapRow.holds Try.pinned (OpenSpec.ofChange fnRoughAddSwapWrong)

/-- 'laws.FnExactRoughJoin': WHATEVER THE INPUT: true; the input reads as it did. -/
def fnExactRoughJoinSpec : ChangeSpec := { name := "fnExactRoughJoin", fn := fun _ => fun
  | [d1, d2] => { results := [.lit (.bool true)], args := [d1, d2] }
  | _ => none }
def fnExactRoughJoinRow : OpenClaim := { program := "ytojhkhpgahhacaa", sum := "2adb0b801ac4e26b02377d23b491d34f73d8332601a34eb11a6ef3976f73180f", func := "loop.example/inkling/laws.FnExactRoughJoin", spec := "fnExactRoughJoin", unfollowed := true, recurses := true, apart := false }
def FnExactRoughJoinSaid : Prop := fnExactRoughJoinRow.holds Try.pinned (OpenSpec.ofChange fnExactRoughJoinSpec)

/-- ITS FALSE NEIGHBOUR: 'it returns false'. Refute it at one input. -/
def fnExactRoughJoinWrong : ChangeSpec := { name := "fnExactRoughJoin", fn := fun _ => fun
  | [d1, d2] => { results := [.lit (.bool false)], args := [d1, d2] }
  | _ => none }
def FnExactRoughJoinWrongFalsely : Prop := fnExactRoughJoinRow.holds Try.pinned (OpenSpec.ofChange fnExactRoughJoinWrong)

/-- 'laws.FnRoughJoinGet': WHATEVER THE INPUT: true; the input reads as it did. -/
def fnRoughJoinGetSpec : ChangeSpec := { name := "fnRoughJoinGet", fn := fun _ => fun
  | [d1, d2] => { results := [.lit (.bool true)], args := [d1, d2] }
  | _ => none }
def fnRoughJoinGetRow : OpenClaim := { program := "ytojhkhpgahhacaa", sum := "2adb0b801ac4e26b02377d23b491d34f73d8332601a34eb11a6ef3976f73180f", func := "loop.example/inkling/laws.FnRoughJoinGet", spec := "fnRoughJoinGet", unfollowed := true, recurses := true, apart := false }
def FnRoughJoinGetSaid : Prop := fnRoughJoinGetRow.holds Try.pinned (OpenSpec.ofChange fnRoughJoinGetSpec)

/-- ITS FALSE NEIGHBOUR: 'it returns false'. Refute it at one input. -/
def fnRoughJoinGetWrong : ChangeSpec := { name := "fnRoughJoinGet", fn := fun _ => fun
  | [d1, d2] => { results := [.lit (.bool false)], args := [d1, d2] }
  | _ => none }
def FnRoughJoinGetWrongFalsely : Prop := fnRoughJoinGetRow.holds Try.pinned (OpenSpec.ofChange fnRoughJoinGetWrong)

/-- 'laws.FnExactRoughAdd': WHATEVER THE INPUT: true; the input reads as it did. -/
def fnExactRoughAddSpec : ChangeSpec := { name := "fnExactRoughAdd", fn := fun _ => fun
  | [d1, d2, d3] => { results := [.lit (.bool true)], args := [d1, d2, d3] }
  | _ => none }
def fnExactRoughAddRow : OpenClaim := { program := "ytojhkhpgahhacaa", sum := "2adb0b801ac4e26b02377d23b491d34f73d8332601a34eb11a6ef3976f73180f", func := "loop.example/inkling/laws.FnExactRoughAdd", spec := "fnExactRoughAdd", unfollowed := true, recurses := true, apart := false }
def FnExactRoughAddSaid : Prop := fnExactRoughAddRow.holds Try.pinned (OpenSpec.ofChange fnExactRoughAddSpec)

/-- ITS FALSE NEIGHBOUR: 'it returns false'. Refute it at one input. -/
def fnExactRoughAddWrong : ChangeSpec := { name := "fnExactRoughAdd", fn := fun _ => fun
  | [d1, d2, d3] => { results := [.lit (.bool false)], args := [d1, d2, d3] }
  | _ => none }
def FnExactRoughAddWrongFalsely : Prop := fnExactRoughAddRow.holds Try.pinned (OpenSpec.ofChange fnExactRoughAddWrong)

/- THE SECOND FORM. 'bulk': how many values and letters a reading holds, each counted each time it is reached (what is shared counts as often as it is met; a slice's spare places count too). A statement '..UptoSaid' is the law's where the arguments, and the package variables that the reading takes, are together of bulk at most 1048576: NARROWER than '..Said'. Prove '..Said' where nothing that the law and all that it calls make is longer than what came in: it says more and counts as full. Else prove '..UptoSaid'. A law counts once. -/
mutual
def uptoBulk {H : Type} : DataW H → Nat
  | .lit (.string bytes) => bytes.length + 1
  | .lit _ => 1
  | .nil => 1
  | .ptr d => uptoBulk d + 1
  | .slice elems spare => uptoBulkAll elems + uptoBulkAll spare + 1
  | .agg parts => uptoBulkAll parts + 1
  | .iface _ d => uptoBulk d + 1
  | .map entries => uptoBulkEntries entries + 1
  | .held _ => 1
def uptoBulkAll {H : Type} : List (DataW H) → Nat
  | [] => 0
  | d :: r => uptoBulk d + uptoBulkAll r
def uptoBulkEntries {H : Type} : List (Lit × DataW H) → Nat
  | [] => 0
  | x :: r => uptoBulkEntry x + uptoBulkEntries r
def uptoBulkEntry {H : Type} : Lit × DataW H → Nat
  | (.string bytes, d) => bytes.length + uptoBulk d + 1
  | (_, d) => uptoBulk d + 1
 end
def uptoSmall : (H : Type) → List (DataW H) → Bool := fun _ ds => decide (uptoBulkAll ds ≤ 1048576)
def OpenSpec.upto (s : _root_.Go.ChangeSpec) : _root_.Go.OpenSpec := { _root_.Go.OpenSpec.ofChange s with cond := some uptoSmall }

/-- 'laws.FnRoughJoinThree', WHERE WHAT IT READS IS OF BULK AT MOST 1048576: true; the input reads as it did. -/
def fnRoughJoinThreeUptoRow : OpenClaim := { program := "ytojhkhpgahhacaa", sum := "2adb0b801ac4e26b02377d23b491d34f73d8332601a34eb11a6ef3976f73180f", func := "loop.example/inkling/laws.FnRoughJoinThree", spec := "fnRoughJoinThree", unfollowed := true, recurses := true, apart := false, narrowed := true }
def FnRoughJoinThreeUptoSaid : Prop := fnRoughJoinThreeUptoRow.holds Try.pinned (OpenSpec.upto fnRoughJoinThreeSpec)

/-- 'laws.FnRoughJoin', WHERE WHAT IT READS IS OF BULK AT MOST 1048576: true; the input reads as it did. -/
def fnRoughJoinUptoRow : OpenClaim := { program := "ytojhkhpgahhacaa", sum := "2adb0b801ac4e26b02377d23b491d34f73d8332601a34eb11a6ef3976f73180f", func := "loop.example/inkling/laws.FnRoughJoin", spec := "fnRoughJoin", unfollowed := true, recurses := true, apart := false, narrowed := true }
def FnRoughJoinUptoSaid : Prop := fnRoughJoinUptoRow.holds Try.pinned (OpenSpec.upto fnRoughJoinSpec)

/-- 'laws.FnRoughNew', WHERE WHAT IT READS IS OF BULK AT MOST 1048576: true; the input reads as it did. -/
def fnRoughNewUptoRow : OpenClaim := { program := "ytojhkhpgahhacaa", sum := "2adb0b801ac4e26b02377d23b491d34f73d8332601a34eb11a6ef3976f73180f", func := "loop.example/inkling/laws.FnRoughNew", spec := "fnRoughNew", unfollowed := true, recurses := true, apart := false, narrowed := true }
def FnRoughNewUptoSaid : Prop := fnRoughNewUptoRow.holds Try.pinned (OpenSpec.upto fnRoughNewSpec)

/-- 'laws.FnRoughAdd', WHERE WHAT IT READS IS OF BULK AT MOST 1048576: true; the input reads as it did. -/
def fnRoughAddUptoRow : OpenClaim := { program := "ytojhkhpgahhacaa", sum := "2adb0b801ac4e26b02377d23b491d34f73d8332601a34eb11a6ef3976f73180f", func := "loop.example/inkling/laws.FnRoughAdd", spec := "fnRoughAdd", unfollowed := true, recurses := true, apart := false, narrowed := true }
def FnRoughAddUptoSaid : Prop := fnRoughAddUptoRow.holds Try.pinned (OpenSpec.upto fnRoughAddSpec)

/-- 'laws.FnRoughAddCut', WHERE WHAT IT READS IS OF BULK AT MOST 1048576: true; the input reads as it did. -/
def fnRoughAddCutUptoRow : OpenClaim := { program := "ytojhkhpgahhacaa", sum := "2adb0b801ac4e26b02377d23b491d34f73d8332601a34eb11a6ef3976f73180f", func := "loop.example/inkling/laws.FnRoughAddCut", spec := "fnRoughAddCut", unfollowed := true, recurses := true, apart := false, narrowed := true }
def FnRoughAddCutUptoSaid : Prop := fnRoughAddCutUptoRow.holds Try.pinned (OpenSpec.upto fnRoughAddCutSpec)

/-- 'laws.FnRoughAddSwap', WHERE WHAT IT READS IS OF BULK AT MOST 1048576: true; the input reads as it did. -/
def fnRoughAddSwapUptoRow : OpenClaim := { program := "ytojhkhpgahhacaa", sum := "2adb0b801ac4e26b02377d23b491d34f73d8332601a34eb11a6ef3976f73180f", func := "loop.example/inkling/laws.FnRoughAddSwap", spec := "fnRoughAddSwap", unfollowed := true, recurses := true, apart := false, narrowed := true }
def FnRoughAddSwapUptoSaid : Prop := fnRoughAddSwapUptoRow.holds Try.pinned (OpenSpec.upto fnRoughAddSwapSpec)

/-- 'laws.FnExactRoughJoin', WHERE WHAT IT READS IS OF BULK AT MOST 1048576: true; the input reads as it did. -/
def fnExactRoughJoinUptoRow : OpenClaim := { program := "ytojhkhpgahhacaa", sum := "2adb0b801ac4e26b02377d23b491d34f73d8332601a34eb11a6ef3976f73180f", func := "loop.example/inkling/laws.FnExactRoughJoin", spec := "fnExactRoughJoin", unfollowed := true, recurses := true, apart := false, narrowed := true }
def FnExactRoughJoinUptoSaid : Prop := fnExactRoughJoinUptoRow.holds Try.pinned (OpenSpec.upto fnExactRoughJoinSpec)

/-- 'laws.FnRoughJoinGet', WHERE WHAT IT READS IS OF BULK AT MOST 1048576: true; the input reads as it did. -/
def fnRoughJoinGetUptoRow : OpenClaim := { program := "ytojhkhpgahhacaa", sum := "2adb0b801ac4e26b02377d23b491d34f73d8332601a34eb11a6ef3976f73180f", func := "loop.example/inkling/laws.FnRoughJoinGet", spec := "fnRoughJoinGet", unfollowed := true, recurses := true, apart := false, narrowed := true }
def FnRoughJoinGetUptoSaid : Prop := fnRoughJoinGetUptoRow.holds Try.pinned (OpenSpec.upto fnRoughJoinGetSpec)

/-- 'laws.FnExactRoughAdd', WHERE WHAT IT READS IS OF BULK AT MOST 1048576: true; the input reads as it did. -/
def fnExactRoughAddUptoRow : OpenClaim := { program := "ytojhkhpgahhacaa", sum := "2adb0b801ac4e26b02377d23b491d34f73d8332601a34eb11a6ef3976f73180f", func := "loop.example/inkling/laws.FnExactRoughAdd", spec := "fnExactRoughAdd", unfollowed := true, recurses := true, apart := false, narrowed := true }
def FnExactRoughAddUptoSaid : Prop := fnExactRoughAddUptoRow.holds Try.pinned (OpenSpec.upto fnExactRoughAddSpec)

end Rows
end Go.Proofs.Ytojhkhpgahhacaa
