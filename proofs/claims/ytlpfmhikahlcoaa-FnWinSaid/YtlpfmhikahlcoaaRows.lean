/-
  No cell of these rows narrows 'for every input' (looked for: loops, veiled, ifaces, maps, wideKeys, modest, calm, conditions, laid).
  DERIVED. THE GIVEN ROWS OF THIS SEAT. 12 by the template 'for every input the law returns true; each argument reads behind the call as it read before'; 0 by the template 'total and deterministic' (their statements: YtlpfmhikahlcoaaTotals.lean).
  GIVEN WITH THE SEED: the statements are not yours to turn. If you find one false, say at which input.
  Laid BY PROGRAM, IN A SANDBOX (cutbox-rows.mjs): the forced cells as the released guide's own fill.sh prints them over the translation 0d5d124997ef1ada… (all of the seat's roots in one cut). By AI agents, Wed Nov 11 2026. No macro, syntax, notation, axiom, sorry.
-/
import Derived.Test.YtlpfmhikahlcoaaChecked
import GoSem.Claim
import GoSem.ClaimJoined
import GoSem.ClaimMapViews
import Derived.JoinedTies
import Derived.KernelRfl
namespace Go.Proofs.Ytlpfmhikahlcoaa
/- THE CELL 'sum', in the pinned program and in every row, IS THE sha256 OF THE DUMP (.gsa) THAT YtlpfmhikahlcoaaProg.lean LOADS. Nothing in Lean hashes anything: it is a label: what it is worth is what the hold of that sum in a sandbox is worth. -/
noncomputable def Try.pinned : Pinned := { name := "ytlpfmhikahlcoaa", sum := "0d5d124997ef1ada47b2db4f4a72ffed2d483fe8c303ea0f9adef520ebdaa6d8", checked := Try.checked }
namespace Rows
def none {H : Type} : Left H := { results := [], args := [] }

/-- 'laws.FnExactDecide': WHATEVER THE INPUT: true; the input reads as it did. -/
def fnExactDecideSpec : ChangeSpec := { name := "fnExactDecide", fn := fun _ => fun
  | [d1, d2] => { results := [.lit (.bool true)], args := [d1, d2] }
  | _ => none }
def fnExactDecideRow : OpenClaim := { program := "ytlpfmhikahlcoaa", sum := "0d5d124997ef1ada47b2db4f4a72ffed2d483fe8c303ea0f9adef520ebdaa6d8", func := "loop.example/g00116/laws.FnExactDecide", spec := "fnExactDecide", inPlace := ["internal/bytealg.IndexByteString", "internal/bytealg.IndexString"], recurses := true, named := ["internal/bytealg.MaxLen"], apart := false }
def FnExactDecideSaid : Prop := fnExactDecideRow.holds Try.pinned (OpenSpec.ofChange fnExactDecideSpec)

/-- ITS FALSE NEIGHBOUR: 'it returns false'. Refute it at one input. -/
def fnExactDecideWrong : ChangeSpec := { name := "fnExactDecide", fn := fun _ => fun
  | [d1, d2] => { results := [.lit (.bool false)], args := [d1, d2] }
  | _ => none }
def FnExactDecideWrongFalsely : Prop := fnExactDecideRow.holds Try.pinned (OpenSpec.ofChange fnExactDecideWrong)

/-- 'laws.FnExactChoose': WHATEVER THE INPUT: true; the input reads as it did. -/
def fnExactChooseSpec : ChangeSpec := { name := "fnExactChoose", fn := fun _ => fun
  | [d1, d2] => { results := [.lit (.bool true)], args := [d1, d2] }
  | _ => none }
def fnExactChooseRow : OpenClaim := { program := "ytlpfmhikahlcoaa", sum := "0d5d124997ef1ada47b2db4f4a72ffed2d483fe8c303ea0f9adef520ebdaa6d8", func := "loop.example/g00116/laws.FnExactChoose", spec := "fnExactChoose", inPlace := ["internal/bytealg.IndexByteString", "internal/bytealg.IndexString"], recurses := true, named := ["internal/bytealg.MaxLen"], apart := false }
def FnExactChooseSaid : Prop := fnExactChooseRow.holds Try.pinned (OpenSpec.ofChange fnExactChooseSpec)

/-- ITS FALSE NEIGHBOUR: 'it returns false'. Refute it at one input. -/
def fnExactChooseWrong : ChangeSpec := { name := "fnExactChoose", fn := fun _ => fun
  | [d1, d2] => { results := [.lit (.bool false)], args := [d1, d2] }
  | _ => none }
def FnExactChooseWrongFalsely : Prop := fnExactChooseRow.holds Try.pinned (OpenSpec.ofChange fnExactChooseWrong)

/-- 'laws.FnExactMachineStart': WHATEVER THE INPUT: true; the input reads as it did. -/
def fnExactMachineStartSpec : ChangeSpec := { name := "fnExactMachineStart", fn := fun _ => fun
  | [d1, d2, d3] => { results := [.lit (.bool true)], args := [d1, d2, d3] }
  | _ => none }
def fnExactMachineStartRow : OpenClaim := { program := "ytlpfmhikahlcoaa", sum := "0d5d124997ef1ada47b2db4f4a72ffed2d483fe8c303ea0f9adef520ebdaa6d8", func := "loop.example/g00116/laws.FnExactMachineStart", spec := "fnExactMachineStart", apart := false }
def FnExactMachineStartSaid : Prop := fnExactMachineStartRow.holds Try.pinned (OpenSpec.ofChange fnExactMachineStartSpec)

/-- ITS FALSE NEIGHBOUR: 'it returns false'. Refute it at one input. -/
def fnExactMachineStartWrong : ChangeSpec := { name := "fnExactMachineStart", fn := fun _ => fun
  | [d1, d2, d3] => { results := [.lit (.bool false)], args := [d1, d2, d3] }
  | _ => none }
def FnExactMachineStartWrongFalsely : Prop := fnExactMachineStartRow.holds Try.pinned (OpenSpec.ofChange fnExactMachineStartWrong)

/-- 'laws.FnExactMachineOk': WHATEVER THE INPUT: true; the input reads as it did. -/
def fnExactMachineOkSpec : ChangeSpec := { name := "fnExactMachineOk", fn := fun _ => fun
  | [d] => { results := [.lit (.bool true)], args := [d] }
  | _ => none }
def fnExactMachineOkRow : OpenClaim := { program := "ytlpfmhikahlcoaa", sum := "0d5d124997ef1ada47b2db4f4a72ffed2d483fe8c303ea0f9adef520ebdaa6d8", func := "loop.example/g00116/laws.FnExactMachineOk", spec := "fnExactMachineOk", apart := false }
def FnExactMachineOkSaid : Prop := fnExactMachineOkRow.holds Try.pinned (OpenSpec.ofChange fnExactMachineOkSpec)

/-- ITS FALSE NEIGHBOUR: 'it returns false'. Refute it at one input. -/
def fnExactMachineOkWrong : ChangeSpec := { name := "fnExactMachineOk", fn := fun _ => fun
  | [d] => { results := [.lit (.bool false)], args := [d] }
  | _ => none }
def FnExactMachineOkWrongFalsely : Prop := fnExactMachineOkRow.holds Try.pinned (OpenSpec.ofChange fnExactMachineOkWrong)

/-- 'laws.FnExactMachineVerdict': WHATEVER THE INPUT: true; the input reads as it did. -/
def fnExactMachineVerdictSpec : ChangeSpec := { name := "fnExactMachineVerdict", fn := fun _ => fun
  | [d] => { results := [.lit (.bool true)], args := [d] }
  | _ => none }
def fnExactMachineVerdictRow : OpenClaim := { program := "ytlpfmhikahlcoaa", sum := "0d5d124997ef1ada47b2db4f4a72ffed2d483fe8c303ea0f9adef520ebdaa6d8", func := "loop.example/g00116/laws.FnExactMachineVerdict", spec := "fnExactMachineVerdict", apart := false }
def FnExactMachineVerdictSaid : Prop := fnExactMachineVerdictRow.holds Try.pinned (OpenSpec.ofChange fnExactMachineVerdictSpec)

/-- ITS FALSE NEIGHBOUR: 'it returns false'. Refute it at one input. -/
def fnExactMachineVerdictWrong : ChangeSpec := { name := "fnExactMachineVerdict", fn := fun _ => fun
  | [d] => { results := [.lit (.bool false)], args := [d] }
  | _ => none }
def FnExactMachineVerdictWrongFalsely : Prop := fnExactMachineVerdictRow.holds Try.pinned (OpenSpec.ofChange fnExactMachineVerdictWrong)

/-- 'laws.FnExactMachineLeft': WHATEVER THE INPUT: true; the input reads as it did. -/
def fnExactMachineLeftSpec : ChangeSpec := { name := "fnExactMachineLeft", fn := fun _ => fun
  | [d] => { results := [.lit (.bool true)], args := [d] }
  | _ => none }
def fnExactMachineLeftRow : OpenClaim := { program := "ytlpfmhikahlcoaa", sum := "0d5d124997ef1ada47b2db4f4a72ffed2d483fe8c303ea0f9adef520ebdaa6d8", func := "loop.example/g00116/laws.FnExactMachineLeft", spec := "fnExactMachineLeft", apart := false }
def FnExactMachineLeftSaid : Prop := fnExactMachineLeftRow.holds Try.pinned (OpenSpec.ofChange fnExactMachineLeftSpec)

/-- ITS FALSE NEIGHBOUR: 'it returns false'. Refute it at one input. -/
def fnExactMachineLeftWrong : ChangeSpec := { name := "fnExactMachineLeft", fn := fun _ => fun
  | [d] => { results := [.lit (.bool false)], args := [d] }
  | _ => none }
def FnExactMachineLeftWrongFalsely : Prop := fnExactMachineLeftRow.holds Try.pinned (OpenSpec.ofChange fnExactMachineLeftWrong)

/-- 'laws.FnExactMachineStep': WHATEVER THE INPUT: true; the input reads as it did. -/
def fnExactMachineStepSpec : ChangeSpec := { name := "fnExactMachineStep", fn := fun _ => fun
  | [d] => { results := [.lit (.bool true)], args := [d] }
  | _ => none }
def fnExactMachineStepRow : OpenClaim := { program := "ytlpfmhikahlcoaa", sum := "0d5d124997ef1ada47b2db4f4a72ffed2d483fe8c303ea0f9adef520ebdaa6d8", func := "loop.example/g00116/laws.FnExactMachineStep", spec := "fnExactMachineStep", inPlace := ["internal/bytealg.IndexByteString", "internal/bytealg.IndexString"], unfollowed := true, recurses := true, named := ["internal/bytealg.MaxLen"], apart := false }
def FnExactMachineStepSaid : Prop := fnExactMachineStepRow.holds Try.pinned (OpenSpec.ofChange fnExactMachineStepSpec)

/-- ITS FALSE NEIGHBOUR: 'it returns false'. Refute it at one input. -/
def fnExactMachineStepWrong : ChangeSpec := { name := "fnExactMachineStep", fn := fun _ => fun
  | [d] => { results := [.lit (.bool false)], args := [d] }
  | _ => none }
def FnExactMachineStepWrongFalsely : Prop := fnExactMachineStepRow.holds Try.pinned (OpenSpec.ofChange fnExactMachineStepWrong)

/-- 'laws.FnExactMachineRun': WHATEVER THE INPUT: true; the input reads as it did. -/
def fnExactMachineRunSpec : ChangeSpec := { name := "fnExactMachineRun", fn := fun _ => fun
  | [d1, d2] => { results := [.lit (.bool true)], args := [d1, d2] }
  | _ => none }
def fnExactMachineRunRow : OpenClaim := { program := "ytlpfmhikahlcoaa", sum := "0d5d124997ef1ada47b2db4f4a72ffed2d483fe8c303ea0f9adef520ebdaa6d8", func := "loop.example/g00116/laws.FnExactMachineRun", spec := "fnExactMachineRun", inPlace := ["internal/bytealg.IndexByteString", "internal/bytealg.IndexString"], unfollowed := true, recurses := true, named := ["internal/bytealg.MaxLen"], apart := false }
def FnExactMachineRunSaid : Prop := fnExactMachineRunRow.holds Try.pinned (OpenSpec.ofChange fnExactMachineRunSpec)

/-- ITS FALSE NEIGHBOUR: 'it returns false'. Refute it at one input. -/
def fnExactMachineRunWrong : ChangeSpec := { name := "fnExactMachineRun", fn := fun _ => fun
  | [d1, d2] => { results := [.lit (.bool false)], args := [d1, d2] }
  | _ => none }
def FnExactMachineRunWrongFalsely : Prop := fnExactMachineRunRow.holds Try.pinned (OpenSpec.ofChange fnExactMachineRunWrong)

/-- 'laws.FnMachine': WHATEVER THE INPUT: true; the input reads as it did. -/
def fnMachineSpec : ChangeSpec := { name := "fnMachine", fn := fun _ => fun
  | [d] => { results := [.lit (.bool true)], args := [d] }
  | _ => none }
def fnMachineRow : OpenClaim := { program := "ytlpfmhikahlcoaa", sum := "0d5d124997ef1ada47b2db4f4a72ffed2d483fe8c303ea0f9adef520ebdaa6d8", func := "loop.example/g00116/laws.FnMachine", spec := "fnMachine", inPlace := ["internal/bytealg.IndexByteString", "internal/bytealg.IndexString"], unfollowed := true, recurses := true, named := ["internal/bytealg.MaxLen"], apart := false }
def FnMachineSaid : Prop := fnMachineRow.holds Try.pinned (OpenSpec.ofChange fnMachineSpec)

/-- ITS FALSE NEIGHBOUR: 'it returns false'. Refute it at one input. -/
def fnMachineWrong : ChangeSpec := { name := "fnMachine", fn := fun _ => fun
  | [d] => { results := [.lit (.bool false)], args := [d] }
  | _ => none }
def FnMachineWrongFalsely : Prop := fnMachineRow.holds Try.pinned (OpenSpec.ofChange fnMachineWrong)

/-- 'laws.FnExactWin': WHATEVER THE INPUT: true; the input reads as it did. -/
def fnExactWinSpec : ChangeSpec := { name := "fnExactWin", fn := fun _ => fun
  | [d1, d2] => { results := [.lit (.bool true)], args := [d1, d2] }
  | _ => none }
def fnExactWinRow : OpenClaim := { program := "ytlpfmhikahlcoaa", sum := "0d5d124997ef1ada47b2db4f4a72ffed2d483fe8c303ea0f9adef520ebdaa6d8", func := "loop.example/g00116/laws.FnExactWin", spec := "fnExactWin", inPlace := ["internal/bytealg.IndexByteString", "internal/bytealg.IndexString"], recurses := true, named := ["internal/bytealg.MaxLen"], apart := false }
def FnExactWinSaid : Prop := fnExactWinRow.holds Try.pinned (OpenSpec.ofChange fnExactWinSpec)

/-- ITS FALSE NEIGHBOUR: 'it returns false'. Refute it at one input. -/
def fnExactWinWrong : ChangeSpec := { name := "fnExactWin", fn := fun _ => fun
  | [d1, d2] => { results := [.lit (.bool false)], args := [d1, d2] }
  | _ => none }
def FnExactWinWrongFalsely : Prop := fnExactWinRow.holds Try.pinned (OpenSpec.ofChange fnExactWinWrong)

/-- 'laws.FnExactChecks': WHATEVER THE INPUT: true; the input reads as it did. -/
def fnExactChecksSpec : ChangeSpec := { name := "fnExactChecks", fn := fun _ => fun
  | [d1, d2, d3, d4] => { results := [.lit (.bool true)], args := [d1, d2, d3, d4] }
  | _ => none }
def fnExactChecksRow : OpenClaim := { program := "ytlpfmhikahlcoaa", sum := "0d5d124997ef1ada47b2db4f4a72ffed2d483fe8c303ea0f9adef520ebdaa6d8", func := "loop.example/g00116/laws.FnExactChecks", spec := "fnExactChecks", inPlace := ["internal/bytealg.IndexByteString", "internal/bytealg.IndexString"], recurses := true, named := ["internal/bytealg.MaxLen"], apart := false }
def FnExactChecksSaid : Prop := fnExactChecksRow.holds Try.pinned (OpenSpec.ofChange fnExactChecksSpec)

/-- ITS FALSE NEIGHBOUR: 'it returns false'. Refute it at one input. -/
def fnExactChecksWrong : ChangeSpec := { name := "fnExactChecks", fn := fun _ => fun
  | [d1, d2, d3, d4] => { results := [.lit (.bool false)], args := [d1, d2, d3, d4] }
  | _ => none }
def FnExactChecksWrongFalsely : Prop := fnExactChecksRow.holds Try.pinned (OpenSpec.ofChange fnExactChecksWrong)

/-- 'laws.FnWin': WHATEVER THE INPUT: true; the input reads as it did. -/
def fnWinSpec : ChangeSpec := { name := "fnWin", fn := fun _ => fun
  | [d] => { results := [.lit (.bool true)], args := [d] }
  | _ => none }
def fnWinRow : OpenClaim := { program := "ytlpfmhikahlcoaa", sum := "0d5d124997ef1ada47b2db4f4a72ffed2d483fe8c303ea0f9adef520ebdaa6d8", func := "loop.example/g00116/laws.FnWin", spec := "fnWin", inPlace := ["internal/bytealg.IndexByteString", "internal/bytealg.IndexString"], recurses := true, named := ["internal/bytealg.MaxLen"], apart := false }
def FnWinSaid : Prop := fnWinRow.holds Try.pinned (OpenSpec.ofChange fnWinSpec)

/-- ITS FALSE NEIGHBOUR: 'it returns false'. Refute it at one input. -/
def fnWinWrong : ChangeSpec := { name := "fnWin", fn := fun _ => fun
  | [d] => { results := [.lit (.bool false)], args := [d] }
  | _ => none }
def FnWinWrongFalsely : Prop := fnWinRow.holds Try.pinned (OpenSpec.ofChange fnWinWrong)

/- THE SECOND FORM. 'bulk': how many values and letters a reading holds, each counted each time it is reached (what is shared counts as often as it is met; a slice's spare places count too). A statement '..UptoSaid' is the law's where the arguments, and the package variables that the reading takes, are together of bulk at most 1048576: NARROWER than '..Said'. Prove '..Said' where nothing that the law and all that it calls make is longer than what came in: it says more and counts as full. Else prove '..UptoSaid'. A law counts once. -/
mutual
def uptoBulk {H : Type} : DataW H → Nat
  | .lit (.string bytes) => bytes.length + 1
  | .lit _ => 1
  | .nil => 1
  | .ptr d => uptoBulk d + 1
  | .slice elems spare => uptoBulkAll elems + uptoBulkAll spare + 1
  | .agg parts => uptoBulkAll parts + 1
  | .iface _ d => uptoBulk d + 1
  | .map entries => uptoBulkEntries entries + 1
  | .held _ => 1
def uptoBulkAll {H : Type} : List (DataW H) → Nat
  | [] => 0
  | d :: r => uptoBulk d + uptoBulkAll r
def uptoBulkEntries {H : Type} : List (Lit × DataW H) → Nat
  | [] => 0
  | x :: r => uptoBulkEntry x + uptoBulkEntries r
def uptoBulkEntry {H : Type} : Lit × DataW H → Nat
  | (.string bytes, d) => bytes.length + uptoBulk d + 1
  | (_, d) => uptoBulk d + 1
 end
def uptoSmall : (H : Type) → List (DataW H) → Bool := fun _ ds => decide (uptoBulkAll ds ≤ 1048576)
def OpenSpec.upto (s : _root_.Go.ChangeSpec) : _root_.Go.OpenSpec := { _root_.Go.OpenSpec.ofChange s with cond := some uptoSmall }

/-- 'laws.FnExactDecide', WHERE WHAT IT READS IS OF BULK AT MOST 1048576: true; the input reads as it did. -/
def fnExactDecideUptoRow : OpenClaim := { program := "ytlpfmhikahlcoaa", sum := "0d5d124997ef1ada47b2db4f4a72ffed2d483fe8c303ea0f9adef520ebdaa6d8", func := "loop.example/g00116/laws.FnExactDecide", spec := "fnExactDecide", inPlace := ["internal/bytealg.IndexByteString", "internal/bytealg.IndexString"], recurses := true, named := ["internal/bytealg.MaxLen"], apart := false, narrowed := true }
def FnExactDecideUptoSaid : Prop := fnExactDecideUptoRow.holds Try.pinned (OpenSpec.upto fnExactDecideSpec)

/-- 'laws.FnExactChoose', WHERE WHAT IT READS IS OF BULK AT MOST 1048576: true; the input reads as it did. -/
def fnExactChooseUptoRow : OpenClaim := { program := "ytlpfmhikahlcoaa", sum := "0d5d124997ef1ada47b2db4f4a72ffed2d483fe8c303ea0f9adef520ebdaa6d8", func := "loop.example/g00116/laws.FnExactChoose", spec := "fnExactChoose", inPlace := ["internal/bytealg.IndexByteString", "internal/bytealg.IndexString"], recurses := true, named := ["internal/bytealg.MaxLen"], apart := false, narrowed := true }
def FnExactChooseUptoSaid : Prop := fnExactChooseUptoRow.holds Try.pinned (OpenSpec.upto fnExactChooseSpec)

/-- 'laws.FnExactMachineStart', WHERE WHAT IT READS IS OF BULK AT MOST 1048576: true; the input reads as it did. -/
def fnExactMachineStartUptoRow : OpenClaim := { program := "ytlpfmhikahlcoaa", sum := "0d5d124997ef1ada47b2db4f4a72ffed2d483fe8c303ea0f9adef520ebdaa6d8", func := "loop.example/g00116/laws.FnExactMachineStart", spec := "fnExactMachineStart", apart := false, narrowed := true }
def FnExactMachineStartUptoSaid : Prop := fnExactMachineStartUptoRow.holds Try.pinned (OpenSpec.upto fnExactMachineStartSpec)

/-- 'laws.FnExactMachineOk', WHERE WHAT IT READS IS OF BULK AT MOST 1048576: true; the input reads as it did. -/
def fnExactMachineOkUptoRow : OpenClaim := { program := "ytlpfmhikahlcoaa", sum := "0d5d124997ef1ada47b2db4f4a72ffed2d483fe8c303ea0f9adef520ebdaa6d8", func := "loop.example/g00116/laws.FnExactMachineOk", spec := "fnExactMachineOk", apart := false, narrowed := true }
def FnExactMachineOkUptoSaid : Prop := fnExactMachineOkUptoRow.holds Try.pinned (OpenSpec.upto fnExactMachineOkSpec)

/-- 'laws.FnExactMachineVerdict', WHERE WHAT IT READS IS OF BULK AT MOST 1048576: true; the input reads as it did. -/
def fnExactMachineVerdictUptoRow : OpenClaim := { program := "ytlpfmhikahlcoaa", sum := "0d5d124997ef1ada47b2db4f4a72ffed2d483fe8c303ea0f9adef520ebdaa6d8", func := "loop.example/g00116/laws.FnExactMachineVerdict", spec := "fnExactMachineVerdict", apart := false, narrowed := true }
def FnExactMachineVerdictUptoSaid : Prop := fnExactMachineVerdictUptoRow.holds Try.pinned (OpenSpec.upto fnExactMachineVerdictSpec)

/-- 'laws.FnExactMachineLeft', WHERE WHAT IT READS IS OF BULK AT MOST 1048576: true; the input reads as it did. -/
def fnExactMachineLeftUptoRow : OpenClaim := { program := "ytlpfmhikahlcoaa", sum := "0d5d124997ef1ada47b2db4f4a72ffed2d483fe8c303ea0f9adef520ebdaa6d8", func := "loop.example/g00116/laws.FnExactMachineLeft", spec := "fnExactMachineLeft", apart := false, narrowed := true }
def FnExactMachineLeftUptoSaid : Prop := fnExactMachineLeftUptoRow.holds Try.pinned (OpenSpec.upto fnExactMachineLeftSpec)

/-- 'laws.FnExactMachineStep', WHERE WHAT IT READS IS OF BULK AT MOST 1048576: true; the input reads as it did. -/
def fnExactMachineStepUptoRow : OpenClaim := { program := "ytlpfmhikahlcoaa", sum := "0d5d124997ef1ada47b2db4f4a72ffed2d483fe8c303ea0f9adef520ebdaa6d8", func := "loop.example/g00116/laws.FnExactMachineStep", spec := "fnExactMachineStep", inPlace := ["internal/bytealg.IndexByteString", "internal/bytealg.IndexString"], unfollowed := true, recurses := true, named := ["internal/bytealg.MaxLen"], apart := false, narrowed := true }
def FnExactMachineStepUptoSaid : Prop := fnExactMachineStepUptoRow.holds Try.pinned (OpenSpec.upto fnExactMachineStepSpec)

/-- 'laws.FnExactMachineRun', WHERE WHAT IT READS IS OF BULK AT MOST 1048576: true; the input reads as it did. -/
def fnExactMachineRunUptoRow : OpenClaim := { program := "ytlpfmhikahlcoaa", sum := "0d5d124997ef1ada47b2db4f4a72ffed2d483fe8c303ea0f9adef520ebdaa6d8", func := "loop.example/g00116/laws.FnExactMachineRun", spec := "fnExactMachineRun", inPlace := ["internal/bytealg.IndexByteString", "internal/bytealg.IndexString"], unfollowed := true, recurses := true, named := ["internal/bytealg.MaxLen"], apart := false, narrowed := true }
def FnExactMachineRunUptoSaid : Prop := fnExactMachineRunUptoRow.holds Try.pinned (OpenSpec.upto fnExactMachineRunSpec)

/-- 'laws.FnMachine', WHERE WHAT IT READS IS OF BULK AT MOST 1048576: true; the input reads as it did. -/
def fnMachineUptoRow : OpenClaim := { program := "ytlpfmhikahlcoaa", sum := "0d5d124997ef1ada47b2db4f4a72ffed2d483fe8c303ea0f9adef520ebdaa6d8", func := "loop.example/g00116/laws.FnMachine", spec := "fnMachine", inPlace := ["internal/bytealg.IndexByteString", "internal/bytealg.IndexString"], unfollowed := true, recurses := true, named := ["internal/bytealg.MaxLen"], apart := false, narrowed := true }
def FnMachineUptoSaid : Prop := fnMachineUptoRow.holds Try.pinned (OpenSpec.upto fnMachineSpec)

/-- 'laws.FnExactWin', WHERE WHAT IT READS IS OF BULK AT MOST 1048576: true; the input reads as it did. -/
def fnExactWinUptoRow : OpenClaim := { program := "ytlpfmhikahlcoaa", sum := "0d5d124997ef1ada47b2db4f4a72ffed2d483fe8c303ea0f9adef520ebdaa6d8", func := "loop.example/g00116/laws.FnExactWin", spec := "fnExactWin", inPlace := ["internal/bytealg.IndexByteString", "internal/bytealg.IndexString"], recurses := true, named := ["internal/bytealg.MaxLen"], apart := false, narrowed := true }
def FnExactWinUptoSaid : Prop := fnExactWinUptoRow.holds Try.pinned (OpenSpec.upto fnExactWinSpec)

/-- 'laws.FnExactChecks', WHERE WHAT IT READS IS OF BULK AT MOST 1048576: true; the input reads as it did. -/
def fnExactChecksUptoRow : OpenClaim := { program := "ytlpfmhikahlcoaa", sum := "0d5d124997ef1ada47b2db4f4a72ffed2d483fe8c303ea0f9adef520ebdaa6d8", func := "loop.example/g00116/laws.FnExactChecks", spec := "fnExactChecks", inPlace := ["internal/bytealg.IndexByteString", "internal/bytealg.IndexString"], recurses := true, named := ["internal/bytealg.MaxLen"], apart := false, narrowed := true }
def FnExactChecksUptoSaid : Prop := fnExactChecksUptoRow.holds Try.pinned (OpenSpec.upto fnExactChecksSpec)

/-- 'laws.FnWin', WHERE WHAT IT READS IS OF BULK AT MOST 1048576: true; the input reads as it did. -/
def fnWinUptoRow : OpenClaim := { program := "ytlpfmhikahlcoaa", sum := "0d5d124997ef1ada47b2db4f4a72ffed2d483fe8c303ea0f9adef520ebdaa6d8", func := "loop.example/g00116/laws.FnWin", spec := "fnWin", inPlace := ["internal/bytealg.IndexByteString", "internal/bytealg.IndexString"], recurses := true, named := ["internal/bytealg.MaxLen"], apart := false, narrowed := true }
def FnWinUptoSaid : Prop := fnWinUptoRow.holds Try.pinned (OpenSpec.upto fnWinSpec)

end Rows
end Go.Proofs.Ytlpfmhikahlcoaa
