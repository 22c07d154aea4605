/-
  No cell of these rows narrows 'for every input' (looked for: loops, veiled, ifaces, maps, wideKeys, modest, calm, conditions, laid).
  DERIVED. THE GIVEN ROWS OF THIS SEAT. 9 by the template 'for every input the law returns true; each argument reads behind the call as it read before'; 0 by the template 'total and deterministic' (their statements: YthijejpdghmmaaaTotals.lean).
  GIVEN WITH THE SEED: the statements are not yours to turn. If you find one false, say at which input.
  Laid BY PROGRAM, IN A SANDBOX (cutbox-rows.mjs): the forced cells as the released guide's own fill.sh prints them over the translation 58da01c73c3fe011… (all of the seat's roots in one cut). By AI agents, Wed Nov 11 2026. No macro, syntax, notation, axiom, sorry.
-/
import Derived.Test.YthijejpdghmmaaaChecked
import GoSem.Claim
import GoSem.ClaimJoined
import GoSem.ClaimMapViews
import Derived.JoinedTies
import Derived.KernelRfl
namespace Go.Proofs.Ythijejpdghmmaaa
/- THE CELL 'sum', in the pinned program and in every row, IS THE sha256 OF THE DUMP (.gsa) THAT YthijejpdghmmaaaProg.lean LOADS. Nothing in Lean hashes anything: it is a label: what it is worth is what the hold of that sum in a sandbox is worth. -/
noncomputable def Try.pinned : Pinned := { name := "ythijejpdghmmaaa", sum := "58da01c73c3fe011db1e42e442ce6ee99b9849924815e8db7eaa942b89126aef", checked := Try.checked }
namespace Rows
def none {H : Type} : Left H := { results := [], args := [] }

/-- 'laws.FnExactConstants': WHATEVER THE INPUT: true; the input reads as it did. -/
def fnExactConstantsSpec : ChangeSpec := { name := "fnExactConstants", fn := fun _ => fun
  | [] => { results := [.lit (.bool true)], args := [] }
  | _ => none }
def fnExactConstantsRow : OpenClaim := { program := "ythijejpdghmmaaa", sum := "58da01c73c3fe011db1e42e442ce6ee99b9849924815e8db7eaa942b89126aef", func := "loop.example/inkling/laws.FnExactConstants", spec := "fnExactConstants", apart := false }
def FnExactConstantsSaid : Prop := fnExactConstantsRow.holds Try.pinned (OpenSpec.ofChange fnExactConstantsSpec)

/-- ITS FALSE NEIGHBOUR: 'it returns false'. Refute it at one input. -/
def fnExactConstantsWrong : ChangeSpec := { name := "fnExactConstants", fn := fun _ => fun
  | [] => { results := [.lit (.bool false)], args := [] }
  | _ => none }
def FnExactConstantsWrongFalsely : Prop := fnExactConstantsRow.holds Try.pinned (OpenSpec.ofChange fnExactConstantsWrong)

/-- 'laws.FnExactRankSpan': WHATEVER THE INPUT: true; the input reads as it did. -/
def fnExactRankSpanSpec : ChangeSpec := { name := "fnExactRankSpan", fn := fun _ => fun
  | [d] => { results := [.lit (.bool true)], args := [d] }
  | _ => none }
def fnExactRankSpanRow : OpenClaim := { program := "ythijejpdghmmaaa", sum := "58da01c73c3fe011db1e42e442ce6ee99b9849924815e8db7eaa942b89126aef", func := "loop.example/inkling/laws.FnExactRankSpan", spec := "fnExactRankSpan", apart := false }
def FnExactRankSpanSaid : Prop := fnExactRankSpanRow.holds Try.pinned (OpenSpec.ofChange fnExactRankSpanSpec)

/-- ITS FALSE NEIGHBOUR: 'it returns false'. Refute it at one input. -/
def fnExactRankSpanWrong : ChangeSpec := { name := "fnExactRankSpan", fn := fun _ => fun
  | [d] => { results := [.lit (.bool false)], args := [d] }
  | _ => none }
def FnExactRankSpanWrongFalsely : Prop := fnExactRankSpanRow.holds Try.pinned (OpenSpec.ofChange fnExactRankSpanWrong)

/-- 'laws.FnRankSpan': WHATEVER THE INPUT: true; the input reads as it did. -/
def fnRankSpanSpec : ChangeSpec := { name := "fnRankSpan", fn := fun _ => fun
  | [d] => { results := [.lit (.bool true)], args := [d] }
  | _ => none }
def fnRankSpanRow : OpenClaim := { program := "ythijejpdghmmaaa", sum := "58da01c73c3fe011db1e42e442ce6ee99b9849924815e8db7eaa942b89126aef", func := "loop.example/inkling/laws.FnRankSpan", spec := "fnRankSpan", apart := false }
def FnRankSpanSaid : Prop := fnRankSpanRow.holds Try.pinned (OpenSpec.ofChange fnRankSpanSpec)

/-- ITS FALSE NEIGHBOUR: 'it returns false'. Refute it at one input. -/
def fnRankSpanWrong : ChangeSpec := { name := "fnRankSpan", fn := fun _ => fun
  | [d] => { results := [.lit (.bool false)], args := [d] }
  | _ => none }
def FnRankSpanWrongFalsely : Prop := fnRankSpanRow.holds Try.pinned (OpenSpec.ofChange fnRankSpanWrong)

/-- 'laws.FnRankSpanIn': WHATEVER THE INPUT: true; the input reads as it did. -/
def fnRankSpanInSpec : ChangeSpec := { name := "fnRankSpanIn", fn := fun _ => fun
  | [d1, d2] => { results := [.lit (.bool true)], args := [d1, d2] }
  | _ => none }
def fnRankSpanInRow : OpenClaim := { program := "ythijejpdghmmaaa", sum := "58da01c73c3fe011db1e42e442ce6ee99b9849924815e8db7eaa942b89126aef", func := "loop.example/inkling/laws.FnRankSpanIn", spec := "fnRankSpanIn", apart := false }
def FnRankSpanInSaid : Prop := fnRankSpanInRow.holds Try.pinned (OpenSpec.ofChange fnRankSpanInSpec)

/-- ITS FALSE NEIGHBOUR: 'it returns false'. Refute it at one input. -/
def fnRankSpanInWrong : ChangeSpec := { name := "fnRankSpanIn", fn := fun _ => fun
  | [d1, d2] => { results := [.lit (.bool false)], args := [d1, d2] }
  | _ => none }
def FnRankSpanInWrongFalsely : Prop := fnRankSpanInRow.holds Try.pinned (OpenSpec.ofChange fnRankSpanInWrong)

/-- 'laws.FnExactRankOk': WHATEVER THE INPUT: true; the input reads as it did. -/
def fnExactRankOkSpec : ChangeSpec := { name := "fnExactRankOk", fn := fun _ => fun
  | [d] => { results := [.lit (.bool true)], args := [d] }
  | _ => none }
def fnExactRankOkRow : OpenClaim := { program := "ythijejpdghmmaaa", sum := "58da01c73c3fe011db1e42e442ce6ee99b9849924815e8db7eaa942b89126aef", func := "loop.example/inkling/laws.FnExactRankOk", spec := "fnExactRankOk", apart := false }
def FnExactRankOkSaid : Prop := fnExactRankOkRow.holds Try.pinned (OpenSpec.ofChange fnExactRankOkSpec)

/-- ITS FALSE NEIGHBOUR: 'it returns false'. Refute it at one input. -/
def fnExactRankOkWrong : ChangeSpec := { name := "fnExactRankOk", fn := fun _ => fun
  | [d] => { results := [.lit (.bool false)], args := [d] }
  | _ => none }
def FnExactRankOkWrongFalsely : Prop := fnExactRankOkRow.holds Try.pinned (OpenSpec.ofChange fnExactRankOkWrong)

/-- 'laws.FnRankOk': WHATEVER THE INPUT: true; the input reads as it did. -/
def fnRankOkSpec : ChangeSpec := { name := "fnRankOk", fn := fun _ => fun
  | [d] => { results := [.lit (.bool true)], args := [d] }
  | _ => none }
def fnRankOkRow : OpenClaim := { program := "ythijejpdghmmaaa", sum := "58da01c73c3fe011db1e42e442ce6ee99b9849924815e8db7eaa942b89126aef", func := "loop.example/inkling/laws.FnRankOk", spec := "fnRankOk", apart := false }
def FnRankOkSaid : Prop := fnRankOkRow.holds Try.pinned (OpenSpec.ofChange fnRankOkSpec)

/-- ITS FALSE NEIGHBOUR: 'it returns false'. Refute it at one input. -/
def fnRankOkWrong : ChangeSpec := { name := "fnRankOk", fn := fun _ => fun
  | [d] => { results := [.lit (.bool false)], args := [d] }
  | _ => none }
def FnRankOkWrongFalsely : Prop := fnRankOkRow.holds Try.pinned (OpenSpec.ofChange fnRankOkWrong)

/-- 'laws.FnExactRankBelow': WHATEVER THE INPUT: true; the input reads as it did. -/
def fnExactRankBelowSpec : ChangeSpec := { name := "fnExactRankBelow", fn := fun _ => fun
  | [d1, d2] => { results := [.lit (.bool true)], args := [d1, d2] }
  | _ => none }
def fnExactRankBelowRow : OpenClaim := { program := "ythijejpdghmmaaa", sum := "58da01c73c3fe011db1e42e442ce6ee99b9849924815e8db7eaa942b89126aef", func := "loop.example/inkling/laws.FnExactRankBelow", spec := "fnExactRankBelow", apart := false }
def FnExactRankBelowSaid : Prop := fnExactRankBelowRow.holds Try.pinned (OpenSpec.ofChange fnExactRankBelowSpec)

/-- ITS FALSE NEIGHBOUR: 'it returns false'. Refute it at one input. -/
def fnExactRankBelowWrong : ChangeSpec := { name := "fnExactRankBelow", fn := fun _ => fun
  | [d1, d2] => { results := [.lit (.bool false)], args := [d1, d2] }
  | _ => none }
def FnExactRankBelowWrongFalsely : Prop := fnExactRankBelowRow.holds Try.pinned (OpenSpec.ofChange fnExactRankBelowWrong)

/-- 'laws.FnExactRankAt': WHATEVER THE INPUT: true; the input reads as it did. -/
def fnExactRankAtSpec : ChangeSpec := { name := "fnExactRankAt", fn := fun _ => fun
  | [d1, d2] => { results := [.lit (.bool true)], args := [d1, d2] }
  | _ => none }
def fnExactRankAtRow : OpenClaim := { program := "ythijejpdghmmaaa", sum := "58da01c73c3fe011db1e42e442ce6ee99b9849924815e8db7eaa942b89126aef", func := "loop.example/inkling/laws.FnExactRankAt", spec := "fnExactRankAt", apart := false }
def FnExactRankAtSaid : Prop := fnExactRankAtRow.holds Try.pinned (OpenSpec.ofChange fnExactRankAtSpec)

/-- ITS FALSE NEIGHBOUR: 'it returns false'. Refute it at one input. -/
def fnExactRankAtWrong : ChangeSpec := { name := "fnExactRankAt", fn := fun _ => fun
  | [d1, d2] => { results := [.lit (.bool false)], args := [d1, d2] }
  | _ => none }
def FnExactRankAtWrongFalsely : Prop := fnExactRankAtRow.holds Try.pinned (OpenSpec.ofChange fnExactRankAtWrong)

/-- 'laws.FnRankGap': WHATEVER THE INPUT: true; the input reads as it did. -/
def fnRankGapSpec : ChangeSpec := { name := "fnRankGap", fn := fun _ => fun
  | [d] => { results := [.lit (.bool true)], args := [d] }
  | _ => none }
def fnRankGapRow : OpenClaim := { program := "ythijejpdghmmaaa", sum := "58da01c73c3fe011db1e42e442ce6ee99b9849924815e8db7eaa942b89126aef", func := "loop.example/inkling/laws.FnRankGap", spec := "fnRankGap", apart := false }
def FnRankGapSaid : Prop := fnRankGapRow.holds Try.pinned (OpenSpec.ofChange fnRankGapSpec)

/-- ITS FALSE NEIGHBOUR: 'it returns false'. Refute it at one input. -/
def fnRankGapWrong : ChangeSpec := { name := "fnRankGap", fn := fun _ => fun
  | [d] => { results := [.lit (.bool false)], args := [d] }
  | _ => none }
def FnRankGapWrongFalsely : Prop := fnRankGapRow.holds Try.pinned (OpenSpec.ofChange fnRankGapWrong)

/- THE SECOND FORM. 'bulk': how many values and letters a reading holds, each counted each time it is reached (what is shared counts as often as it is met; a slice's spare places count too). A statement '..UptoSaid' is the law's where the arguments, and the package variables that the reading takes, are together of bulk at most 1048576: NARROWER than '..Said'. Prove '..Said' where nothing that the law and all that it calls make is longer than what came in: it says more and counts as full. Else prove '..UptoSaid'. A law counts once. -/
mutual
def uptoBulk {H : Type} : DataW H → Nat
  | .lit (.string bytes) => bytes.length + 1
  | .lit _ => 1
  | .nil => 1
  | .ptr d => uptoBulk d + 1
  | .slice elems spare => uptoBulkAll elems + uptoBulkAll spare + 1
  | .agg parts => uptoBulkAll parts + 1
  | .iface _ d => uptoBulk d + 1
  | .map entries => uptoBulkEntries entries + 1
  | .held _ => 1
def uptoBulkAll {H : Type} : List (DataW H) → Nat
  | [] => 0
  | d :: r => uptoBulk d + uptoBulkAll r
def uptoBulkEntries {H : Type} : List (Lit × DataW H) → Nat
  | [] => 0
  | x :: r => uptoBulkEntry x + uptoBulkEntries r
def uptoBulkEntry {H : Type} : Lit × DataW H → Nat
  | (.string bytes, d) => bytes.length + uptoBulk d + 1
  | (_, d) => uptoBulk d + 1
 end
def uptoSmall : (H : Type) → List (DataW H) → Bool := fun _ ds => decide (uptoBulkAll ds ≤ 1048576)
def OpenSpec.upto (s : _root_.Go.ChangeSpec) : _root_.Go.OpenSpec := { _root_.Go.OpenSpec.ofChange s with cond := some uptoSmall }

/-- 'laws.FnExactConstants', WHERE WHAT IT READS IS OF BULK AT MOST 1048576: true; the input reads as it did. -/
def fnExactConstantsUptoRow : OpenClaim := { program := "ythijejpdghmmaaa", sum := "58da01c73c3fe011db1e42e442ce6ee99b9849924815e8db7eaa942b89126aef", func := "loop.example/inkling/laws.FnExactConstants", spec := "fnExactConstants", apart := false, narrowed := true }
def FnExactConstantsUptoSaid : Prop := fnExactConstantsUptoRow.holds Try.pinned (OpenSpec.upto fnExactConstantsSpec)

/-- 'laws.FnExactRankSpan', WHERE WHAT IT READS IS OF BULK AT MOST 1048576: true; the input reads as it did. -/
def fnExactRankSpanUptoRow : OpenClaim := { program := "ythijejpdghmmaaa", sum := "58da01c73c3fe011db1e42e442ce6ee99b9849924815e8db7eaa942b89126aef", func := "loop.example/inkling/laws.FnExactRankSpan", spec := "fnExactRankSpan", apart := false, narrowed := true }
def FnExactRankSpanUptoSaid : Prop := fnExactRankSpanUptoRow.holds Try.pinned (OpenSpec.upto fnExactRankSpanSpec)

/-- 'laws.FnRankSpan', WHERE WHAT IT READS IS OF BULK AT MOST 1048576: true; the input reads as it did. -/
def fnRankSpanUptoRow : OpenClaim := { program := "ythijejpdghmmaaa", sum := "58da01c73c3fe011db1e42e442ce6ee99b9849924815e8db7eaa942b89126aef", func := "loop.example/inkling/laws.FnRankSpan", spec := "fnRankSpan", apart := false, narrowed := true }
def FnRankSpanUptoSaid : Prop := fnRankSpanUptoRow.holds Try.pinned (OpenSpec.upto fnRankSpanSpec)

/-- 'laws.FnRankSpanIn', WHERE WHAT IT READS IS OF BULK AT MOST 1048576: true; the input reads as it did. -/
def fnRankSpanInUptoRow : OpenClaim := { program := "ythijejpdghmmaaa", sum := "58da01c73c3fe011db1e42e442ce6ee99b9849924815e8db7eaa942b89126aef", func := "loop.example/inkling/laws.FnRankSpanIn", spec := "fnRankSpanIn", apart := false, narrowed := true }
def FnRankSpanInUptoSaid : Prop := fnRankSpanInUptoRow.holds Try.pinned (OpenSpec.upto fnRankSpanInSpec)

/-- 'laws.FnExactRankOk', WHERE WHAT IT READS IS OF BULK AT MOST 1048576: true; the input reads as it did. -/
def fnExactRankOkUptoRow : OpenClaim := { program := "ythijejpdghmmaaa", sum := "58da01c73c3fe011db1e42e442ce6ee99b9849924815e8db7eaa942b89126aef", func := "loop.example/inkling/laws.FnExactRankOk", spec := "fnExactRankOk", apart := false, narrowed := true }
def FnExactRankOkUptoSaid : Prop := fnExactRankOkUptoRow.holds Try.pinned (OpenSpec.upto fnExactRankOkSpec)

/-- 'laws.FnRankOk', WHERE WHAT IT READS IS OF BULK AT MOST 1048576: true; the input reads as it did. -/
def fnRankOkUptoRow : OpenClaim := { program := "ythijejpdghmmaaa", sum := "58da01c73c3fe011db1e42e442ce6ee99b9849924815e8db7eaa942b89126aef", func := "loop.example/inkling/laws.FnRankOk", spec := "fnRankOk", apart := false, narrowed := true }
def FnRankOkUptoSaid : Prop := fnRankOkUptoRow.holds Try.pinned (OpenSpec.upto fnRankOkSpec)

/-- 'laws.FnExactRankBelow', WHERE WHAT IT READS IS OF BULK AT MOST 1048576: true; the input reads as it did. -/
def fnExactRankBelowUptoRow : OpenClaim := { program := "ythijejpdghmmaaa", sum := "58da01c73c3fe011db1e42e442ce6ee99b9849924815e8db7eaa942b89126aef", func := "loop.example/inkling/laws.FnExactRankBelow", spec := "fnExactRankBelow", apart := false, narrowed := true }
def FnExactRankBelowUptoSaid : Prop := fnExactRankBelowUptoRow.holds Try.pinned (OpenSpec.upto fnExactRankBelowSpec)

/-- 'laws.FnExactRankAt', WHERE WHAT IT READS IS OF BULK AT MOST 1048576: true; the input reads as it did. -/
def fnExactRankAtUptoRow : OpenClaim := { program := "ythijejpdghmmaaa", sum := "58da01c73c3fe011db1e42e442ce6ee99b9849924815e8db7eaa942b89126aef", func := "loop.example/inkling/laws.FnExactRankAt", spec := "fnExactRankAt", apart := false, narrowed := true }
def FnExactRankAtUptoSaid : Prop := fnExactRankAtUptoRow.holds Try.pinned (OpenSpec.upto fnExactRankAtSpec)

/-- 'laws.FnRankGap', WHERE WHAT IT READS IS OF BULK AT MOST 1048576: true; the input reads as it did. -/
def fnRankGapUptoRow : OpenClaim := { program := "ythijejpdghmmaaa", sum := "58da01c73c3fe011db1e42e442ce6ee99b9849924815e8db7eaa942b89126aef", func := "loop.example/inkling/laws.FnRankGap", spec := "fnRankGap", apart := false, narrowed := true }
def FnRankGapUptoSaid : Prop := fnRankGapUptoRow.holds Try.pinned (OpenSpec.upto fnRankGapSpec)

end Rows
end Go.Proofs.Ythijejpdghmmaaa
