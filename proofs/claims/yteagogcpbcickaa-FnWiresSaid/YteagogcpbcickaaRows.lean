/-
  No cell of these rows narrows 'for every input' (looked for: loops, veiled, ifaces, maps, wideKeys, modest, calm, conditions, laid).
  DERIVED. THE GIVEN ROWS OF THIS SEAT. 12 by the template 'for every input the law returns true; each argument reads behind the call as it read before'; 0 by the template 'total and deterministic' (their statements: YteagogcpbcickaaTotals.lean).
  GIVEN WITH THE SEED: the statements are not yours to turn. If you find one false, say at which input.
  Laid BY PROGRAM, IN A SANDBOX (cutbox-rows.mjs): the forced cells as the released guide's own fill.sh prints them over the translation d5e5e87f37ac6141… (all of the seat's roots in one cut). By AI agents, Wed Nov 11 2026. No macro, syntax, notation, axiom, sorry.
-/
import Derived.Test.YteagogcpbcickaaChecked
import GoSem.Claim
import GoSem.ClaimJoined
import GoSem.ClaimMapViews
import Derived.JoinedTies
import Derived.KernelRfl
namespace Go.Proofs.Yteagogcpbcickaa
/- THE CELL 'sum', in the pinned program and in every row, IS THE sha256 OF THE DUMP (.gsa) THAT YteagogcpbcickaaProg.lean LOADS. Nothing in Lean hashes anything: it is a label: what it is worth is what the hold of that sum in a sandbox is worth. -/
noncomputable def Try.pinned : Pinned := { name := "yteagogcpbcickaa", sum := "d5e5e87f37ac6141a43f804ce5ee290457a8362e5cefbd8d6f16c0d3bd436b1a", checked := Try.checked }
namespace Rows
def none {H : Type} : Left H := { results := [], args := [] }

/-- 'laws.FnExactGraphOk': WHATEVER THE INPUT: true; the input reads as it did. -/
def fnExactGraphOkSpec : ChangeSpec := { name := "fnExactGraphOk", fn := fun _ => fun
  | [d] => { results := [.lit (.bool true)], args := [d] }
  | _ => none }
def fnExactGraphOkRow : OpenClaim := { program := "yteagogcpbcickaa", sum := "d5e5e87f37ac6141a43f804ce5ee290457a8362e5cefbd8d6f16c0d3bd436b1a", func := "loop.example/g00116/laws.FnExactGraphOk", spec := "fnExactGraphOk", plainKeys := false, apart := false }
def FnExactGraphOkSaid : Prop := fnExactGraphOkRow.holds Try.pinned (OpenSpec.ofChange fnExactGraphOkSpec)

/-- ITS FALSE NEIGHBOUR: 'it returns false'. Refute it at one input. -/
def fnExactGraphOkWrong : ChangeSpec := { name := "fnExactGraphOk", fn := fun _ => fun
  | [d] => { results := [.lit (.bool false)], args := [d] }
  | _ => none }
def FnExactGraphOkWrongFalsely : Prop := fnExactGraphOkRow.holds Try.pinned (OpenSpec.ofChange fnExactGraphOkWrong)

/-- 'laws.FnExactGraphSize': WHATEVER THE INPUT: true; the input reads as it did. -/
def fnExactGraphSizeSpec : ChangeSpec := { name := "fnExactGraphSize", fn := fun _ => fun
  | [d1, d2] => { results := [.lit (.bool true)], args := [d1, d2] }
  | _ => none }
def fnExactGraphSizeRow : OpenClaim := { program := "yteagogcpbcickaa", sum := "d5e5e87f37ac6141a43f804ce5ee290457a8362e5cefbd8d6f16c0d3bd436b1a", func := "loop.example/g00116/laws.FnExactGraphSize", spec := "fnExactGraphSize", plainKeys := false, apart := false }
def FnExactGraphSizeSaid : Prop := fnExactGraphSizeRow.holds Try.pinned (OpenSpec.ofChange fnExactGraphSizeSpec)

/-- ITS FALSE NEIGHBOUR: 'it returns false'. Refute it at one input. -/
def fnExactGraphSizeWrong : ChangeSpec := { name := "fnExactGraphSize", fn := fun _ => fun
  | [d1, d2] => { results := [.lit (.bool false)], args := [d1, d2] }
  | _ => none }
def FnExactGraphSizeWrongFalsely : Prop := fnExactGraphSizeRow.holds Try.pinned (OpenSpec.ofChange fnExactGraphSizeWrong)

/-- 'laws.FnExactGraphTable': WHATEVER THE INPUT: true; the input reads as it did. -/
def fnExactGraphTableSpec : ChangeSpec := { name := "fnExactGraphTable", fn := fun _ => fun
  | [d1, d2] => { results := [.lit (.bool true)], args := [d1, d2] }
  | _ => none }
def fnExactGraphTableRow : OpenClaim := { program := "yteagogcpbcickaa", sum := "d5e5e87f37ac6141a43f804ce5ee290457a8362e5cefbd8d6f16c0d3bd436b1a", func := "loop.example/g00116/laws.FnExactGraphTable", spec := "fnExactGraphTable", plainKeys := false, apart := false }
def FnExactGraphTableSaid : Prop := fnExactGraphTableRow.holds Try.pinned (OpenSpec.ofChange fnExactGraphTableSpec)

/-- ITS FALSE NEIGHBOUR: 'it returns false'. Refute it at one input. -/
def fnExactGraphTableWrong : ChangeSpec := { name := "fnExactGraphTable", fn := fun _ => fun
  | [d1, d2] => { results := [.lit (.bool false)], args := [d1, d2] }
  | _ => none }
def FnExactGraphTableWrongFalsely : Prop := fnExactGraphTableRow.holds Try.pinned (OpenSpec.ofChange fnExactGraphTableWrong)

/-- 'laws.FnExactGraphValue': WHATEVER THE INPUT: true; the input reads as it did. -/
def fnExactGraphValueSpec : ChangeSpec := { name := "fnExactGraphValue", fn := fun _ => fun
  | [d1, d2, d3] => { results := [.lit (.bool true)], args := [d1, d2, d3] }
  | _ => none }
def fnExactGraphValueRow : OpenClaim := { program := "yteagogcpbcickaa", sum := "d5e5e87f37ac6141a43f804ce5ee290457a8362e5cefbd8d6f16c0d3bd436b1a", func := "loop.example/g00116/laws.FnExactGraphValue", spec := "fnExactGraphValue", plainKeys := false, apart := false }
def FnExactGraphValueSaid : Prop := fnExactGraphValueRow.holds Try.pinned (OpenSpec.ofChange fnExactGraphValueSpec)

/-- ITS FALSE NEIGHBOUR: 'it returns false'. Refute it at one input. -/
def fnExactGraphValueWrong : ChangeSpec := { name := "fnExactGraphValue", fn := fun _ => fun
  | [d1, d2, d3] => { results := [.lit (.bool false)], args := [d1, d2, d3] }
  | _ => none }
def FnExactGraphValueWrongFalsely : Prop := fnExactGraphValueRow.holds Try.pinned (OpenSpec.ofChange fnExactGraphValueWrong)

/-- 'laws.FnExactGraphAnd': WHATEVER THE INPUT: true; the input reads as it did. -/
def fnExactGraphAndSpec : ChangeSpec := { name := "fnExactGraphAnd", fn := fun _ => fun
  | [d1, d2, d3] => { results := [.lit (.bool true)], args := [d1, d2, d3] }
  | _ => none }
def fnExactGraphAndRow : OpenClaim := { program := "yteagogcpbcickaa", sum := "d5e5e87f37ac6141a43f804ce5ee290457a8362e5cefbd8d6f16c0d3bd436b1a", func := "loop.example/g00116/laws.FnExactGraphAnd", spec := "fnExactGraphAnd", unfollowed := true, recurses := true, plainKeys := false, apart := false }
def FnExactGraphAndSaid : Prop := fnExactGraphAndRow.holds Try.pinned (OpenSpec.ofChange fnExactGraphAndSpec)

/-- ITS FALSE NEIGHBOUR: 'it returns false'. Refute it at one input. -/
def fnExactGraphAndWrong : ChangeSpec := { name := "fnExactGraphAnd", fn := fun _ => fun
  | [d1, d2, d3] => { results := [.lit (.bool false)], args := [d1, d2, d3] }
  | _ => none }
def FnExactGraphAndWrongFalsely : Prop := fnExactGraphAndRow.holds Try.pinned (OpenSpec.ofChange fnExactGraphAndWrong)

/-- 'laws.FnExactGraphOr': WHATEVER THE INPUT: true; the input reads as it did. -/
def fnExactGraphOrSpec : ChangeSpec := { name := "fnExactGraphOr", fn := fun _ => fun
  | [d1, d2, d3] => { results := [.lit (.bool true)], args := [d1, d2, d3] }
  | _ => none }
def fnExactGraphOrRow : OpenClaim := { program := "yteagogcpbcickaa", sum := "d5e5e87f37ac6141a43f804ce5ee290457a8362e5cefbd8d6f16c0d3bd436b1a", func := "loop.example/g00116/laws.FnExactGraphOr", spec := "fnExactGraphOr", unfollowed := true, recurses := true, plainKeys := false, apart := false }
def FnExactGraphOrSaid : Prop := fnExactGraphOrRow.holds Try.pinned (OpenSpec.ofChange fnExactGraphOrSpec)

/-- ITS FALSE NEIGHBOUR: 'it returns false'. Refute it at one input. -/
def fnExactGraphOrWrong : ChangeSpec := { name := "fnExactGraphOr", fn := fun _ => fun
  | [d1, d2, d3] => { results := [.lit (.bool false)], args := [d1, d2, d3] }
  | _ => none }
def FnExactGraphOrWrongFalsely : Prop := fnExactGraphOrRow.holds Try.pinned (OpenSpec.ofChange fnExactGraphOrWrong)

/-- 'laws.FnExactGraphIf': WHATEVER THE INPUT: true; the input reads as it did. -/
def fnExactGraphIfSpec : ChangeSpec := { name := "fnExactGraphIf", fn := fun _ => fun
  | [d1, d2, d3, d4] => { results := [.lit (.bool true)], args := [d1, d2, d3, d4] }
  | _ => none }
def fnExactGraphIfRow : OpenClaim := { program := "yteagogcpbcickaa", sum := "d5e5e87f37ac6141a43f804ce5ee290457a8362e5cefbd8d6f16c0d3bd436b1a", func := "loop.example/g00116/laws.FnExactGraphIf", spec := "fnExactGraphIf", unfollowed := true, recurses := true, plainKeys := false, apart := false }
def FnExactGraphIfSaid : Prop := fnExactGraphIfRow.holds Try.pinned (OpenSpec.ofChange fnExactGraphIfSpec)

/-- ITS FALSE NEIGHBOUR: 'it returns false'. Refute it at one input. -/
def fnExactGraphIfWrong : ChangeSpec := { name := "fnExactGraphIf", fn := fun _ => fun
  | [d1, d2, d3, d4] => { results := [.lit (.bool false)], args := [d1, d2, d3, d4] }
  | _ => none }
def FnExactGraphIfWrongFalsely : Prop := fnExactGraphIfRow.holds Try.pinned (OpenSpec.ofChange fnExactGraphIfWrong)

/-- 'laws.FnExactGraphOf': WHATEVER THE INPUT: true; the input reads as it did. -/
def fnExactGraphOfSpec : ChangeSpec := { name := "fnExactGraphOf", fn := fun _ => fun
  | [d] => { results := [.lit (.bool true)], args := [d] }
  | _ => none }
def fnExactGraphOfRow : OpenClaim := { program := "yteagogcpbcickaa", sum := "d5e5e87f37ac6141a43f804ce5ee290457a8362e5cefbd8d6f16c0d3bd436b1a", func := "loop.example/g00116/laws.FnExactGraphOf", spec := "fnExactGraphOf", inPlace := ["internal/bytealg.IndexByteString", "internal/bytealg.IndexString"], recurses := true, named := ["internal/bytealg.MaxLen"], plainKeys := false, apart := false }
def FnExactGraphOfSaid : Prop := fnExactGraphOfRow.holds Try.pinned (OpenSpec.ofChange fnExactGraphOfSpec)

/-- ITS FALSE NEIGHBOUR: 'it returns false'. Refute it at one input. -/
def fnExactGraphOfWrong : ChangeSpec := { name := "fnExactGraphOf", fn := fun _ => fun
  | [d] => { results := [.lit (.bool false)], args := [d] }
  | _ => none }
def FnExactGraphOfWrongFalsely : Prop := fnExactGraphOfRow.holds Try.pinned (OpenSpec.ofChange fnExactGraphOfWrong)

/-- 'laws.FnGraph': WHATEVER THE INPUT: true; the input reads as it did. -/
def fnGraphSpec : ChangeSpec := { name := "fnGraph", fn := fun _ => fun
  | [d] => { results := [.lit (.bool true)], args := [d] }
  | _ => none }
def fnGraphRow : OpenClaim := { program := "yteagogcpbcickaa", sum := "d5e5e87f37ac6141a43f804ce5ee290457a8362e5cefbd8d6f16c0d3bd436b1a", func := "loop.example/g00116/laws.FnGraph", spec := "fnGraph", inPlace := ["internal/bytealg.IndexByteString", "internal/bytealg.IndexString"], unfollowed := true, recurses := true, named := ["internal/bytealg.MaxLen"], plainKeys := false, apart := false }
def FnGraphSaid : Prop := fnGraphRow.holds Try.pinned (OpenSpec.ofChange fnGraphSpec)

/-- ITS FALSE NEIGHBOUR: 'it returns false'. Refute it at one input. -/
def fnGraphWrong : ChangeSpec := { name := "fnGraph", fn := fun _ => fun
  | [d] => { results := [.lit (.bool false)], args := [d] }
  | _ => none }
def FnGraphWrongFalsely : Prop := fnGraphRow.holds Try.pinned (OpenSpec.ofChange fnGraphWrong)

/-- 'laws.FnWires': WHATEVER THE INPUT: true; the input reads as it did. -/
def fnWiresSpec : ChangeSpec := { name := "fnWires", fn := fun _ => fun
  | [d] => { results := [.lit (.bool true)], args := [d] }
  | _ => none }
def fnWiresRow : OpenClaim := { program := "yteagogcpbcickaa", sum := "d5e5e87f37ac6141a43f804ce5ee290457a8362e5cefbd8d6f16c0d3bd436b1a", func := "loop.example/g00116/laws.FnWires", spec := "fnWires", unfollowed := true, recurses := true, plainKeys := false, apart := false }
def FnWiresSaid : Prop := fnWiresRow.holds Try.pinned (OpenSpec.ofChange fnWiresSpec)

/-- ITS FALSE NEIGHBOUR: 'it returns false'. Refute it at one input. -/
def fnWiresWrong : ChangeSpec := { name := "fnWires", fn := fun _ => fun
  | [d] => { results := [.lit (.bool false)], args := [d] }
  | _ => none }
def FnWiresWrongFalsely : Prop := fnWiresRow.holds Try.pinned (OpenSpec.ofChange fnWiresWrong)

/-- 'laws.FnExactPickText': WHATEVER THE INPUT: true; the input reads as it did. -/
def fnExactPickTextSpec : ChangeSpec := { name := "fnExactPickText", fn := fun _ => fun
  | [d] => { results := [.lit (.bool true)], args := [d] }
  | _ => none }
def fnExactPickTextRow : OpenClaim := { program := "yteagogcpbcickaa", sum := "d5e5e87f37ac6141a43f804ce5ee290457a8362e5cefbd8d6f16c0d3bd436b1a", func := "loop.example/g00116/laws.FnExactPickText", spec := "fnExactPickText", plainKeys := false, apart := false }
def FnExactPickTextSaid : Prop := fnExactPickTextRow.holds Try.pinned (OpenSpec.ofChange fnExactPickTextSpec)

/-- ITS FALSE NEIGHBOUR: 'it returns false'. Refute it at one input. -/
def fnExactPickTextWrong : ChangeSpec := { name := "fnExactPickText", fn := fun _ => fun
  | [d] => { results := [.lit (.bool false)], args := [d] }
  | _ => none }
def FnExactPickTextWrongFalsely : Prop := fnExactPickTextRow.holds Try.pinned (OpenSpec.ofChange fnExactPickTextWrong)

/-- 'laws.FnExactReadPick': WHATEVER THE INPUT: true; the input reads as it did. -/
def fnExactReadPickSpec : ChangeSpec := { name := "fnExactReadPick", fn := fun _ => fun
  | [d] => { results := [.lit (.bool true)], args := [d] }
  | _ => none }
def fnExactReadPickRow : OpenClaim := { program := "yteagogcpbcickaa", sum := "d5e5e87f37ac6141a43f804ce5ee290457a8362e5cefbd8d6f16c0d3bd436b1a", func := "loop.example/g00116/laws.FnExactReadPick", spec := "fnExactReadPick", plainKeys := false, apart := false }
def FnExactReadPickSaid : Prop := fnExactReadPickRow.holds Try.pinned (OpenSpec.ofChange fnExactReadPickSpec)

/-- ITS FALSE NEIGHBOUR: 'it returns false'. Refute it at one input. -/
def fnExactReadPickWrong : ChangeSpec := { name := "fnExactReadPick", fn := fun _ => fun
  | [d] => { results := [.lit (.bool false)], args := [d] }
  | _ => none }
def FnExactReadPickWrongFalsely : Prop := fnExactReadPickRow.holds Try.pinned (OpenSpec.ofChange fnExactReadPickWrong)

/- THE SECOND FORM. 'bulk': how many values and letters a reading holds, each counted each time it is reached (what is shared counts as often as it is met; a slice's spare places count too). A statement '..UptoSaid' is the law's where the arguments, and the package variables that the reading takes, are together of bulk at most 1048576: NARROWER than '..Said'. Prove '..Said' where nothing that the law and all that it calls make is longer than what came in: it says more and counts as full. Else prove '..UptoSaid'. A law counts once. -/
mutual
def uptoBulk {H : Type} : DataW H → Nat
  | .lit (.string bytes) => bytes.length + 1
  | .lit _ => 1
  | .nil => 1
  | .ptr d => uptoBulk d + 1
  | .slice elems spare => uptoBulkAll elems + uptoBulkAll spare + 1
  | .agg parts => uptoBulkAll parts + 1
  | .iface _ d => uptoBulk d + 1
  | .map entries => uptoBulkEntries entries + 1
  | .held _ => 1
def uptoBulkAll {H : Type} : List (DataW H) → Nat
  | [] => 0
  | d :: r => uptoBulk d + uptoBulkAll r
def uptoBulkEntries {H : Type} : List (Lit × DataW H) → Nat
  | [] => 0
  | x :: r => uptoBulkEntry x + uptoBulkEntries r
def uptoBulkEntry {H : Type} : Lit × DataW H → Nat
  | (.string bytes, d) => bytes.length + uptoBulk d + 1
  | (_, d) => uptoBulk d + 1
 end
def uptoSmall : (H : Type) → List (DataW H) → Bool := fun _ ds => decide (uptoBulkAll ds ≤ 1048576)
def OpenSpec.upto (s : _root_.Go.ChangeSpec) : _root_.Go.OpenSpec := { _root_.Go.OpenSpec.ofChange s with cond := some uptoSmall }

/-- 'laws.FnExactGraphOk', WHERE WHAT IT READS IS OF BULK AT MOST 1048576: true; the input reads as it did. -/
def fnExactGraphOkUptoRow : OpenClaim := { program := "yteagogcpbcickaa", sum := "d5e5e87f37ac6141a43f804ce5ee290457a8362e5cefbd8d6f16c0d3bd436b1a", func := "loop.example/g00116/laws.FnExactGraphOk", spec := "fnExactGraphOk", plainKeys := false, apart := false, narrowed := true }
def FnExactGraphOkUptoSaid : Prop := fnExactGraphOkUptoRow.holds Try.pinned (OpenSpec.upto fnExactGraphOkSpec)

/-- 'laws.FnExactGraphSize', WHERE WHAT IT READS IS OF BULK AT MOST 1048576: true; the input reads as it did. -/
def fnExactGraphSizeUptoRow : OpenClaim := { program := "yteagogcpbcickaa", sum := "d5e5e87f37ac6141a43f804ce5ee290457a8362e5cefbd8d6f16c0d3bd436b1a", func := "loop.example/g00116/laws.FnExactGraphSize", spec := "fnExactGraphSize", plainKeys := false, apart := false, narrowed := true }
def FnExactGraphSizeUptoSaid : Prop := fnExactGraphSizeUptoRow.holds Try.pinned (OpenSpec.upto fnExactGraphSizeSpec)

/-- 'laws.FnExactGraphTable', WHERE WHAT IT READS IS OF BULK AT MOST 1048576: true; the input reads as it did. -/
def fnExactGraphTableUptoRow : OpenClaim := { program := "yteagogcpbcickaa", sum := "d5e5e87f37ac6141a43f804ce5ee290457a8362e5cefbd8d6f16c0d3bd436b1a", func := "loop.example/g00116/laws.FnExactGraphTable", spec := "fnExactGraphTable", plainKeys := false, apart := false, narrowed := true }
def FnExactGraphTableUptoSaid : Prop := fnExactGraphTableUptoRow.holds Try.pinned (OpenSpec.upto fnExactGraphTableSpec)

/-- 'laws.FnExactGraphValue', WHERE WHAT IT READS IS OF BULK AT MOST 1048576: true; the input reads as it did. -/
def fnExactGraphValueUptoRow : OpenClaim := { program := "yteagogcpbcickaa", sum := "d5e5e87f37ac6141a43f804ce5ee290457a8362e5cefbd8d6f16c0d3bd436b1a", func := "loop.example/g00116/laws.FnExactGraphValue", spec := "fnExactGraphValue", plainKeys := false, apart := false, narrowed := true }
def FnExactGraphValueUptoSaid : Prop := fnExactGraphValueUptoRow.holds Try.pinned (OpenSpec.upto fnExactGraphValueSpec)

/-- 'laws.FnExactGraphAnd', WHERE WHAT IT READS IS OF BULK AT MOST 1048576: true; the input reads as it did. -/
def fnExactGraphAndUptoRow : OpenClaim := { program := "yteagogcpbcickaa", sum := "d5e5e87f37ac6141a43f804ce5ee290457a8362e5cefbd8d6f16c0d3bd436b1a", func := "loop.example/g00116/laws.FnExactGraphAnd", spec := "fnExactGraphAnd", unfollowed := true, recurses := true, plainKeys := false, apart := false, narrowed := true }
def FnExactGraphAndUptoSaid : Prop := fnExactGraphAndUptoRow.holds Try.pinned (OpenSpec.upto fnExactGraphAndSpec)

/-- 'laws.FnExactGraphOr', WHERE WHAT IT READS IS OF BULK AT MOST 1048576: true; the input reads as it did. -/
def fnExactGraphOrUptoRow : OpenClaim := { program := "yteagogcpbcickaa", sum := "d5e5e87f37ac6141a43f804ce5ee290457a8362e5cefbd8d6f16c0d3bd436b1a", func := "loop.example/g00116/laws.FnExactGraphOr", spec := "fnExactGraphOr", unfollowed := true, recurses := true, plainKeys := false, apart := false, narrowed := true }
def FnExactGraphOrUptoSaid : Prop := fnExactGraphOrUptoRow.holds Try.pinned (OpenSpec.upto fnExactGraphOrSpec)

/-- 'laws.FnExactGraphIf', WHERE WHAT IT READS IS OF BULK AT MOST 1048576: true; the input reads as it did. -/
def fnExactGraphIfUptoRow : OpenClaim := { program := "yteagogcpbcickaa", sum := "d5e5e87f37ac6141a43f804ce5ee290457a8362e5cefbd8d6f16c0d3bd436b1a", func := "loop.example/g00116/laws.FnExactGraphIf", spec := "fnExactGraphIf", unfollowed := true, recurses := true, plainKeys := false, apart := false, narrowed := true }
def FnExactGraphIfUptoSaid : Prop := fnExactGraphIfUptoRow.holds Try.pinned (OpenSpec.upto fnExactGraphIfSpec)

/-- 'laws.FnExactGraphOf', WHERE WHAT IT READS IS OF BULK AT MOST 1048576: true; the input reads as it did. -/
def fnExactGraphOfUptoRow : OpenClaim := { program := "yteagogcpbcickaa", sum := "d5e5e87f37ac6141a43f804ce5ee290457a8362e5cefbd8d6f16c0d3bd436b1a", func := "loop.example/g00116/laws.FnExactGraphOf", spec := "fnExactGraphOf", inPlace := ["internal/bytealg.IndexByteString", "internal/bytealg.IndexString"], recurses := true, named := ["internal/bytealg.MaxLen"], plainKeys := false, apart := false, narrowed := true }
def FnExactGraphOfUptoSaid : Prop := fnExactGraphOfUptoRow.holds Try.pinned (OpenSpec.upto fnExactGraphOfSpec)

/-- 'laws.FnGraph', WHERE WHAT IT READS IS OF BULK AT MOST 1048576: true; the input reads as it did. -/
def fnGraphUptoRow : OpenClaim := { program := "yteagogcpbcickaa", sum := "d5e5e87f37ac6141a43f804ce5ee290457a8362e5cefbd8d6f16c0d3bd436b1a", func := "loop.example/g00116/laws.FnGraph", spec := "fnGraph", inPlace := ["internal/bytealg.IndexByteString", "internal/bytealg.IndexString"], unfollowed := true, recurses := true, named := ["internal/bytealg.MaxLen"], plainKeys := false, apart := false, narrowed := true }
def FnGraphUptoSaid : Prop := fnGraphUptoRow.holds Try.pinned (OpenSpec.upto fnGraphSpec)

/-- 'laws.FnWires', WHERE WHAT IT READS IS OF BULK AT MOST 1048576: true; the input reads as it did. -/
def fnWiresUptoRow : OpenClaim := { program := "yteagogcpbcickaa", sum := "d5e5e87f37ac6141a43f804ce5ee290457a8362e5cefbd8d6f16c0d3bd436b1a", func := "loop.example/g00116/laws.FnWires", spec := "fnWires", unfollowed := true, recurses := true, plainKeys := false, apart := false, narrowed := true }
def FnWiresUptoSaid : Prop := fnWiresUptoRow.holds Try.pinned (OpenSpec.upto fnWiresSpec)

/-- 'laws.FnExactPickText', WHERE WHAT IT READS IS OF BULK AT MOST 1048576: true; the input reads as it did. -/
def fnExactPickTextUptoRow : OpenClaim := { program := "yteagogcpbcickaa", sum := "d5e5e87f37ac6141a43f804ce5ee290457a8362e5cefbd8d6f16c0d3bd436b1a", func := "loop.example/g00116/laws.FnExactPickText", spec := "fnExactPickText", plainKeys := false, apart := false, narrowed := true }
def FnExactPickTextUptoSaid : Prop := fnExactPickTextUptoRow.holds Try.pinned (OpenSpec.upto fnExactPickTextSpec)

/-- 'laws.FnExactReadPick', WHERE WHAT IT READS IS OF BULK AT MOST 1048576: true; the input reads as it did. -/
def fnExactReadPickUptoRow : OpenClaim := { program := "yteagogcpbcickaa", sum := "d5e5e87f37ac6141a43f804ce5ee290457a8362e5cefbd8d6f16c0d3bd436b1a", func := "loop.example/g00116/laws.FnExactReadPick", spec := "fnExactReadPick", plainKeys := false, apart := false, narrowed := true }
def FnExactReadPickUptoSaid : Prop := fnExactReadPickUptoRow.holds Try.pinned (OpenSpec.upto fnExactReadPickSpec)

end Rows
end Go.Proofs.Yteagogcpbcickaa
