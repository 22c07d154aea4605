/-
  No cell of these rows narrows 'for every input' (looked for: loops, veiled, ifaces, maps, wideKeys, modest, calm, conditions, laid).
  DERIVED. THE GIVEN ROWS OF THIS SEAT. 8 by the template 'for every input the law returns true; each argument reads behind the call as it read before'; 0 by the template 'total and deterministic' (their statements: YtdnffhagegcboaaTotals.lean).
  GIVEN WITH THE SEED: the statements are not yours to turn. If you find one false, say at which input.
  Laid BY PROGRAM, IN A SANDBOX (cutbox-rows.mjs): the forced cells as the released guide's own fill.sh prints them over the translation 368f2469e6f6e89f… (all of the seat's roots in one cut). By AI agents, Wed Nov 11 2026. No macro, syntax, notation, axiom, sorry.
-/
import Derived.Test.YtdnffhagegcboaaChecked
import GoSem.Claim
import GoSem.ClaimJoined
import GoSem.ClaimMapViews
import Derived.JoinedTies
import Derived.KernelRfl
namespace Go.Proofs.Ytdnffhagegcboaa
/- THE CELL 'sum', in the pinned program and in every row, IS THE sha256 OF THE DUMP (.gsa) THAT YtdnffhagegcboaaProg.lean LOADS. Nothing in Lean hashes anything: it is a label: what it is worth is what the hold of that sum in a sandbox is worth. -/
noncomputable def Try.pinned : Pinned := { name := "ytdnffhagegcboaa", sum := "368f2469e6f6e89f1220dbc3e26fed6d3b146738b6ce59c938a930d1edf75f2f", checked := Try.checked }
namespace Rows
def none {H : Type} : Left H := { results := [], args := [] }

/-- 'laws.FnExactRoughPlace': WHATEVER THE INPUT: true; the input reads as it did. -/
def fnExactRoughPlaceSpec : ChangeSpec := { name := "fnExactRoughPlace", fn := fun _ => fun
  | [d1, d2] => { results := [.lit (.bool true)], args := [d1, d2] }
  | _ => none }
def fnExactRoughPlaceRow : OpenClaim := { program := "ytdnffhagegcboaa", sum := "368f2469e6f6e89f1220dbc3e26fed6d3b146738b6ce59c938a930d1edf75f2f", func := "loop.example/inkling/laws.FnExactRoughPlace", spec := "fnExactRoughPlace", apart := false }
def FnExactRoughPlaceSaid : Prop := fnExactRoughPlaceRow.holds Try.pinned (OpenSpec.ofChange fnExactRoughPlaceSpec)

/-- ITS FALSE NEIGHBOUR: 'it returns false'. Refute it at one input. -/
def fnExactRoughPlaceWrong : ChangeSpec := { name := "fnExactRoughPlace", fn := fun _ => fun
  | [d1, d2] => { results := [.lit (.bool false)], args := [d1, d2] }
  | _ => none }
def FnExactRoughPlaceWrongFalsely : Prop := fnExactRoughPlaceRow.holds Try.pinned (OpenSpec.ofChange fnExactRoughPlaceWrong)

/-- 'laws.FnRoughPlace': WHATEVER THE INPUT: true; the input reads as it did. -/
def fnRoughPlaceSpec : ChangeSpec := { name := "fnRoughPlace", fn := fun _ => fun
  | [d] => { results := [.lit (.bool true)], args := [d] }
  | _ => none }
def fnRoughPlaceRow : OpenClaim := { program := "ytdnffhagegcboaa", sum := "368f2469e6f6e89f1220dbc3e26fed6d3b146738b6ce59c938a930d1edf75f2f", func := "loop.example/inkling/laws.FnRoughPlace", spec := "fnRoughPlace", apart := false }
def FnRoughPlaceSaid : Prop := fnRoughPlaceRow.holds Try.pinned (OpenSpec.ofChange fnRoughPlaceSpec)

/-- ITS FALSE NEIGHBOUR: 'it returns false'. Refute it at one input. -/
def fnRoughPlaceWrong : ChangeSpec := { name := "fnRoughPlace", fn := fun _ => fun
  | [d] => { results := [.lit (.bool false)], args := [d] }
  | _ => none }
def FnRoughPlaceWrongFalsely : Prop := fnRoughPlaceRow.holds Try.pinned (OpenSpec.ofChange fnRoughPlaceWrong)

/-- 'laws.FnExactRoughNew': WHATEVER THE INPUT: true; the input reads as it did. -/
def fnExactRoughNewSpec : ChangeSpec := { name := "fnExactRoughNew", fn := fun _ => fun
  | [] => { results := [.lit (.bool true)], args := [] }
  | _ => none }
def fnExactRoughNewRow : OpenClaim := { program := "ytdnffhagegcboaa", sum := "368f2469e6f6e89f1220dbc3e26fed6d3b146738b6ce59c938a930d1edf75f2f", func := "loop.example/inkling/laws.FnExactRoughNew", spec := "fnExactRoughNew", apart := false }
def FnExactRoughNewSaid : Prop := fnExactRoughNewRow.holds Try.pinned (OpenSpec.ofChange fnExactRoughNewSpec)

/-- ITS FALSE NEIGHBOUR: 'it returns false'. Refute it at one input. -/
def fnExactRoughNewWrong : ChangeSpec := { name := "fnExactRoughNew", fn := fun _ => fun
  | [] => { results := [.lit (.bool false)], args := [] }
  | _ => none }
def FnExactRoughNewWrongFalsely : Prop := fnExactRoughNewRow.holds Try.pinned (OpenSpec.ofChange fnExactRoughNewWrong)

/-- 'laws.FnExactRoughOk': WHATEVER THE INPUT: true; the input reads as it did. -/
def fnExactRoughOkSpec : ChangeSpec := { name := "fnExactRoughOk", fn := fun _ => fun
  | [d] => { results := [.lit (.bool true)], args := [d] }
  | _ => none }
def fnExactRoughOkRow : OpenClaim := { program := "ytdnffhagegcboaa", sum := "368f2469e6f6e89f1220dbc3e26fed6d3b146738b6ce59c938a930d1edf75f2f", func := "loop.example/inkling/laws.FnExactRoughOk", spec := "fnExactRoughOk", apart := false }
def FnExactRoughOkSaid : Prop := fnExactRoughOkRow.holds Try.pinned (OpenSpec.ofChange fnExactRoughOkSpec)

/-- ITS FALSE NEIGHBOUR: 'it returns false'. Refute it at one input. -/
def fnExactRoughOkWrong : ChangeSpec := { name := "fnExactRoughOk", fn := fun _ => fun
  | [d] => { results := [.lit (.bool false)], args := [d] }
  | _ => none }
def FnExactRoughOkWrongFalsely : Prop := fnExactRoughOkRow.holds Try.pinned (OpenSpec.ofChange fnExactRoughOkWrong)

/-- 'laws.FnExactRoughAll': WHATEVER THE INPUT: true; the input reads as it did. -/
def fnExactRoughAllSpec : ChangeSpec := { name := "fnExactRoughAll", fn := fun _ => fun
  | [d] => { results := [.lit (.bool true)], args := [d] }
  | _ => none }
def fnExactRoughAllRow : OpenClaim := { program := "ytdnffhagegcboaa", sum := "368f2469e6f6e89f1220dbc3e26fed6d3b146738b6ce59c938a930d1edf75f2f", func := "loop.example/inkling/laws.FnExactRoughAll", spec := "fnExactRoughAll", apart := false }
def FnExactRoughAllSaid : Prop := fnExactRoughAllRow.holds Try.pinned (OpenSpec.ofChange fnExactRoughAllSpec)

/-- ITS FALSE NEIGHBOUR: 'it returns false'. Refute it at one input. -/
def fnExactRoughAllWrong : ChangeSpec := { name := "fnExactRoughAll", fn := fun _ => fun
  | [d] => { results := [.lit (.bool false)], args := [d] }
  | _ => none }
def FnExactRoughAllWrongFalsely : Prop := fnExactRoughAllRow.holds Try.pinned (OpenSpec.ofChange fnExactRoughAllWrong)

/-- 'laws.FnRoughAll': WHATEVER THE INPUT: true; the input reads as it did. -/
def fnRoughAllSpec : ChangeSpec := { name := "fnRoughAll", fn := fun _ => fun
  | [d] => { results := [.lit (.bool true)], args := [d] }
  | _ => none }
def fnRoughAllRow : OpenClaim := { program := "ytdnffhagegcboaa", sum := "368f2469e6f6e89f1220dbc3e26fed6d3b146738b6ce59c938a930d1edf75f2f", func := "loop.example/inkling/laws.FnRoughAll", spec := "fnRoughAll", apart := false }
def FnRoughAllSaid : Prop := fnRoughAllRow.holds Try.pinned (OpenSpec.ofChange fnRoughAllSpec)

/-- ITS FALSE NEIGHBOUR: 'it returns false'. Refute it at one input. -/
def fnRoughAllWrong : ChangeSpec := { name := "fnRoughAll", fn := fun _ => fun
  | [d] => { results := [.lit (.bool false)], args := [d] }
  | _ => none }
def FnRoughAllWrongFalsely : Prop := fnRoughAllRow.holds Try.pinned (OpenSpec.ofChange fnRoughAllWrong)

/-- 'laws.FnExactRoughGet': WHATEVER THE INPUT: true; the input reads as it did. -/
def fnExactRoughGetSpec : ChangeSpec := { name := "fnExactRoughGet", fn := fun _ => fun
  | [d1, d2] => { results := [.lit (.bool true)], args := [d1, d2] }
  | _ => none }
def fnExactRoughGetRow : OpenClaim := { program := "ytdnffhagegcboaa", sum := "368f2469e6f6e89f1220dbc3e26fed6d3b146738b6ce59c938a930d1edf75f2f", func := "loop.example/inkling/laws.FnExactRoughGet", spec := "fnExactRoughGet", apart := false }
def FnExactRoughGetSaid : Prop := fnExactRoughGetRow.holds Try.pinned (OpenSpec.ofChange fnExactRoughGetSpec)

/-- ITS FALSE NEIGHBOUR: 'it returns false'. Refute it at one input. -/
def fnExactRoughGetWrong : ChangeSpec := { name := "fnExactRoughGet", fn := fun _ => fun
  | [d1, d2] => { results := [.lit (.bool false)], args := [d1, d2] }
  | _ => none }
def FnExactRoughGetWrongFalsely : Prop := fnExactRoughGetRow.holds Try.pinned (OpenSpec.ofChange fnExactRoughGetWrong)

/-- 'laws.FnRoughGet': WHATEVER THE INPUT: true; the input reads as it did. -/
def fnRoughGetSpec : ChangeSpec := { name := "fnRoughGet", fn := fun _ => fun
  | [d] => { results := [.lit (.bool true)], args := [d] }
  | _ => none }
def fnRoughGetRow : OpenClaim := { program := "ytdnffhagegcboaa", sum := "368f2469e6f6e89f1220dbc3e26fed6d3b146738b6ce59c938a930d1edf75f2f", func := "loop.example/inkling/laws.FnRoughGet", spec := "fnRoughGet", apart := false }
def FnRoughGetSaid : Prop := fnRoughGetRow.holds Try.pinned (OpenSpec.ofChange fnRoughGetSpec)

/-- ITS FALSE NEIGHBOUR: 'it returns false'. Refute it at one input. -/
def fnRoughGetWrong : ChangeSpec := { name := "fnRoughGet", fn := fun _ => fun
  | [d] => { results := [.lit (.bool false)], args := [d] }
  | _ => none }
def FnRoughGetWrongFalsely : Prop := fnRoughGetRow.holds Try.pinned (OpenSpec.ofChange fnRoughGetWrong)

/- THE SECOND FORM. 'bulk': how many values and letters a reading holds, each counted each time it is reached (what is shared counts as often as it is met; a slice's spare places count too). A statement '..UptoSaid' is the law's where the arguments, and the package variables that the reading takes, are together of bulk at most 1048576: NARROWER than '..Said'. Prove '..Said' where nothing that the law and all that it calls make is longer than what came in: it says more and counts as full. Else prove '..UptoSaid'. A law counts once. -/
mutual
def uptoBulk {H : Type} : DataW H → Nat
  | .lit (.string bytes) => bytes.length + 1
  | .lit _ => 1
  | .nil => 1
  | .ptr d => uptoBulk d + 1
  | .slice elems spare => uptoBulkAll elems + uptoBulkAll spare + 1
  | .agg parts => uptoBulkAll parts + 1
  | .iface _ d => uptoBulk d + 1
  | .map entries => uptoBulkEntries entries + 1
  | .held _ => 1
def uptoBulkAll {H : Type} : List (DataW H) → Nat
  | [] => 0
  | d :: r => uptoBulk d + uptoBulkAll r
def uptoBulkEntries {H : Type} : List (Lit × DataW H) → Nat
  | [] => 0
  | x :: r => uptoBulkEntry x + uptoBulkEntries r
def uptoBulkEntry {H : Type} : Lit × DataW H → Nat
  | (.string bytes, d) => bytes.length + uptoBulk d + 1
  | (_, d) => uptoBulk d + 1
 end
def uptoSmall : (H : Type) → List (DataW H) → Bool := fun _ ds => decide (uptoBulkAll ds ≤ 1048576)
def OpenSpec.upto (s : _root_.Go.ChangeSpec) : _root_.Go.OpenSpec := { _root_.Go.OpenSpec.ofChange s with cond := some uptoSmall }

/-- 'laws.FnExactRoughPlace', WHERE WHAT IT READS IS OF BULK AT MOST 1048576: true; the input reads as it did. -/
def fnExactRoughPlaceUptoRow : OpenClaim := { program := "ytdnffhagegcboaa", sum := "368f2469e6f6e89f1220dbc3e26fed6d3b146738b6ce59c938a930d1edf75f2f", func := "loop.example/inkling/laws.FnExactRoughPlace", spec := "fnExactRoughPlace", apart := false, narrowed := true }
def FnExactRoughPlaceUptoSaid : Prop := fnExactRoughPlaceUptoRow.holds Try.pinned (OpenSpec.upto fnExactRoughPlaceSpec)

/-- 'laws.FnRoughPlace', WHERE WHAT IT READS IS OF BULK AT MOST 1048576: true; the input reads as it did. -/
def fnRoughPlaceUptoRow : OpenClaim := { program := "ytdnffhagegcboaa", sum := "368f2469e6f6e89f1220dbc3e26fed6d3b146738b6ce59c938a930d1edf75f2f", func := "loop.example/inkling/laws.FnRoughPlace", spec := "fnRoughPlace", apart := false, narrowed := true }
def FnRoughPlaceUptoSaid : Prop := fnRoughPlaceUptoRow.holds Try.pinned (OpenSpec.upto fnRoughPlaceSpec)

/-- 'laws.FnExactRoughNew', WHERE WHAT IT READS IS OF BULK AT MOST 1048576: true; the input reads as it did. -/
def fnExactRoughNewUptoRow : OpenClaim := { program := "ytdnffhagegcboaa", sum := "368f2469e6f6e89f1220dbc3e26fed6d3b146738b6ce59c938a930d1edf75f2f", func := "loop.example/inkling/laws.FnExactRoughNew", spec := "fnExactRoughNew", apart := false, narrowed := true }
def FnExactRoughNewUptoSaid : Prop := fnExactRoughNewUptoRow.holds Try.pinned (OpenSpec.upto fnExactRoughNewSpec)

/-- 'laws.FnExactRoughOk', WHERE WHAT IT READS IS OF BULK AT MOST 1048576: true; the input reads as it did. -/
def fnExactRoughOkUptoRow : OpenClaim := { program := "ytdnffhagegcboaa", sum := "368f2469e6f6e89f1220dbc3e26fed6d3b146738b6ce59c938a930d1edf75f2f", func := "loop.example/inkling/laws.FnExactRoughOk", spec := "fnExactRoughOk", apart := false, narrowed := true }
def FnExactRoughOkUptoSaid : Prop := fnExactRoughOkUptoRow.holds Try.pinned (OpenSpec.upto fnExactRoughOkSpec)

/-- 'laws.FnExactRoughAll', WHERE WHAT IT READS IS OF BULK AT MOST 1048576: true; the input reads as it did. -/
def fnExactRoughAllUptoRow : OpenClaim := { program := "ytdnffhagegcboaa", sum := "368f2469e6f6e89f1220dbc3e26fed6d3b146738b6ce59c938a930d1edf75f2f", func := "loop.example/inkling/laws.FnExactRoughAll", spec := "fnExactRoughAll", apart := false, narrowed := true }
def FnExactRoughAllUptoSaid : Prop := fnExactRoughAllUptoRow.holds Try.pinned (OpenSpec.upto fnExactRoughAllSpec)

/-- 'laws.FnRoughAll', WHERE WHAT IT READS IS OF BULK AT MOST 1048576: true; the input reads as it did. -/
def fnRoughAllUptoRow : OpenClaim := { program := "ytdnffhagegcboaa", sum := "368f2469e6f6e89f1220dbc3e26fed6d3b146738b6ce59c938a930d1edf75f2f", func := "loop.example/inkling/laws.FnRoughAll", spec := "fnRoughAll", apart := false, narrowed := true }
def FnRoughAllUptoSaid : Prop := fnRoughAllUptoRow.holds Try.pinned (OpenSpec.upto fnRoughAllSpec)

/-- 'laws.FnExactRoughGet', WHERE WHAT IT READS IS OF BULK AT MOST 1048576: true; the input reads as it did. -/
def fnExactRoughGetUptoRow : OpenClaim := { program := "ytdnffhagegcboaa", sum := "368f2469e6f6e89f1220dbc3e26fed6d3b146738b6ce59c938a930d1edf75f2f", func := "loop.example/inkling/laws.FnExactRoughGet", spec := "fnExactRoughGet", apart := false, narrowed := true }
def FnExactRoughGetUptoSaid : Prop := fnExactRoughGetUptoRow.holds Try.pinned (OpenSpec.upto fnExactRoughGetSpec)

/-- 'laws.FnRoughGet', WHERE WHAT IT READS IS OF BULK AT MOST 1048576: true; the input reads as it did. -/
def fnRoughGetUptoRow : OpenClaim := { program := "ytdnffhagegcboaa", sum := "368f2469e6f6e89f1220dbc3e26fed6d3b146738b6ce59c938a930d1edf75f2f", func := "loop.example/inkling/laws.FnRoughGet", spec := "fnRoughGet", apart := false, narrowed := true }
def FnRoughGetUptoSaid : Prop := fnRoughGetUptoRow.holds Try.pinned (OpenSpec.upto fnRoughGetSpec)

end Rows
end Go.Proofs.Ytdnffhagegcboaa
