/-
  No cell of these rows narrows 'for every input' (looked for: loops, veiled, ifaces, maps, wideKeys, modest, calm, conditions, laid).
  DERIVED. THE GIVEN ROWS OF THIS SEAT. 12 by the template 'for every input the law returns true; each argument reads behind the call as it read before'; 0 by the template 'total and deterministic' (their statements: YtfincfnklcllnaaTotals.lean).
  GIVEN WITH THE SEED: the statements are not yours to turn. If you find one false, say at which input.
  Laid BY PROGRAM, IN A SANDBOX (cutbox-rows.mjs): the forced cells as the released guide's own fill.sh prints them over the translation b06009a43372ead5… (all of the seat's roots in one cut). By AI agents, Wed Nov 11 2026. No macro, syntax, notation, axiom, sorry.
-/
import Derived.Test.YtfincfnklcllnaaChecked
import GoSem.Claim
import GoSem.ClaimJoined
import GoSem.ClaimMapViews
import Derived.JoinedTies
import Derived.KernelRfl
namespace Go.Proofs.Ytfincfnklcllnaa
/- THE CELL 'sum', in the pinned program and in every row, IS THE sha256 OF THE DUMP (.gsa) THAT YtfincfnklcllnaaProg.lean LOADS. Nothing in Lean hashes anything: it is a label: what it is worth is what the hold of that sum in a sandbox is worth. -/
noncomputable def Try.pinned : Pinned := { name := "ytfincfnklcllnaa", sum := "b06009a43372ead56c6a322aac328f7f7e8383d02dd7cf8b8f2fabe5431f2e63", checked := Try.checked }
namespace Rows
def none {H : Type} : Left H := { results := [], args := [] }

/-- 'laws.FnExactTurned': WHATEVER THE INPUT: true; the input reads as it did. -/
def fnExactTurnedSpec : ChangeSpec := { name := "fnExactTurned", fn := fun _ => fun
  | [d] => { results := [.lit (.bool true)], args := [d] }
  | _ => none }
def fnExactTurnedRow : OpenClaim := { program := "ytfincfnklcllnaa", sum := "b06009a43372ead56c6a322aac328f7f7e8383d02dd7cf8b8f2fabe5431f2e63", func := "loop.example/g00116/laws.FnExactTurned", spec := "fnExactTurned", apart := false }
def FnExactTurnedSaid : Prop := fnExactTurnedRow.holds Try.pinned (OpenSpec.ofChange fnExactTurnedSpec)

/-- ITS FALSE NEIGHBOUR: 'it returns false'. Refute it at one input. -/
def fnExactTurnedWrong : ChangeSpec := { name := "fnExactTurned", fn := fun _ => fun
  | [d] => { results := [.lit (.bool false)], args := [d] }
  | _ => none }
def FnExactTurnedWrongFalsely : Prop := fnExactTurnedRow.holds Try.pinned (OpenSpec.ofChange fnExactTurnedWrong)

/-- 'laws.FnExactOwner': WHATEVER THE INPUT: true; the input reads as it did. -/
def fnExactOwnerSpec : ChangeSpec := { name := "fnExactOwner", fn := fun _ => fun
  | [d1, d2] => { results := [.lit (.bool true)], args := [d1, d2] }
  | _ => none }
def fnExactOwnerRow : OpenClaim := { program := "ytfincfnklcllnaa", sum := "b06009a43372ead56c6a322aac328f7f7e8383d02dd7cf8b8f2fabe5431f2e63", func := "loop.example/g00116/laws.FnExactOwner", spec := "fnExactOwner", apart := false }
def FnExactOwnerSaid : Prop := fnExactOwnerRow.holds Try.pinned (OpenSpec.ofChange fnExactOwnerSpec)

/-- ITS FALSE NEIGHBOUR: 'it returns false'. Refute it at one input. -/
def fnExactOwnerWrong : ChangeSpec := { name := "fnExactOwner", fn := fun _ => fun
  | [d1, d2] => { results := [.lit (.bool false)], args := [d1, d2] }
  | _ => none }
def FnExactOwnerWrongFalsely : Prop := fnExactOwnerRow.holds Try.pinned (OpenSpec.ofChange fnExactOwnerWrong)

/-- 'laws.FnExactTableNot': WHATEVER THE INPUT: true; the input reads as it did. -/
def fnExactTableNotSpec : ChangeSpec := { name := "fnExactTableNot", fn := fun _ => fun
  | [d] => { results := [.lit (.bool true)], args := [d] }
  | _ => none }
def fnExactTableNotRow : OpenClaim := { program := "ytfincfnklcllnaa", sum := "b06009a43372ead56c6a322aac328f7f7e8383d02dd7cf8b8f2fabe5431f2e63", func := "loop.example/g00116/laws.FnExactTableNot", spec := "fnExactTableNot", unfollowed := true, recurses := true, apart := false }
def FnExactTableNotSaid : Prop := fnExactTableNotRow.holds Try.pinned (OpenSpec.ofChange fnExactTableNotSpec)

/-- ITS FALSE NEIGHBOUR: 'it returns false'. Refute it at one input. -/
def fnExactTableNotWrong : ChangeSpec := { name := "fnExactTableNot", fn := fun _ => fun
  | [d] => { results := [.lit (.bool false)], args := [d] }
  | _ => none }
def FnExactTableNotWrongFalsely : Prop := fnExactTableNotRow.holds Try.pinned (OpenSpec.ofChange fnExactTableNotWrong)

/-- 'laws.FnExactTableKey': WHATEVER THE INPUT: true; the input reads as it did. -/
def fnExactTableKeySpec : ChangeSpec := { name := "fnExactTableKey", fn := fun _ => fun
  | [d] => { results := [.lit (.bool true)], args := [d] }
  | _ => none }
def fnExactTableKeyRow : OpenClaim := { program := "ytfincfnklcllnaa", sum := "b06009a43372ead56c6a322aac328f7f7e8383d02dd7cf8b8f2fabe5431f2e63", func := "loop.example/g00116/laws.FnExactTableKey", spec := "fnExactTableKey", apart := false }
def FnExactTableKeySaid : Prop := fnExactTableKeyRow.holds Try.pinned (OpenSpec.ofChange fnExactTableKeySpec)

/-- ITS FALSE NEIGHBOUR: 'it returns false'. Refute it at one input. -/
def fnExactTableKeyWrong : ChangeSpec := { name := "fnExactTableKey", fn := fun _ => fun
  | [d] => { results := [.lit (.bool false)], args := [d] }
  | _ => none }
def FnExactTableKeyWrongFalsely : Prop := fnExactTableKeyRow.holds Try.pinned (OpenSpec.ofChange fnExactTableKeyWrong)

/-- 'laws.FnExactTableAnd': WHATEVER THE INPUT: true; the input reads as it did. -/
def fnExactTableAndSpec : ChangeSpec := { name := "fnExactTableAnd", fn := fun _ => fun
  | [d1, d2] => { results := [.lit (.bool true)], args := [d1, d2] }
  | _ => none }
def fnExactTableAndRow : OpenClaim := { program := "ytfincfnklcllnaa", sum := "b06009a43372ead56c6a322aac328f7f7e8383d02dd7cf8b8f2fabe5431f2e63", func := "loop.example/g00116/laws.FnExactTableAnd", spec := "fnExactTableAnd", unfollowed := true, recurses := true, apart := false }
def FnExactTableAndSaid : Prop := fnExactTableAndRow.holds Try.pinned (OpenSpec.ofChange fnExactTableAndSpec)

/-- ITS FALSE NEIGHBOUR: 'it returns false'. Refute it at one input. -/
def fnExactTableAndWrong : ChangeSpec := { name := "fnExactTableAnd", fn := fun _ => fun
  | [d1, d2] => { results := [.lit (.bool false)], args := [d1, d2] }
  | _ => none }
def FnExactTableAndWrongFalsely : Prop := fnExactTableAndRow.holds Try.pinned (OpenSpec.ofChange fnExactTableAndWrong)

/-- 'laws.FnExactTableXor': WHATEVER THE INPUT: true; the input reads as it did. -/
def fnExactTableXorSpec : ChangeSpec := { name := "fnExactTableXor", fn := fun _ => fun
  | [d1, d2] => { results := [.lit (.bool true)], args := [d1, d2] }
  | _ => none }
def fnExactTableXorRow : OpenClaim := { program := "ytfincfnklcllnaa", sum := "b06009a43372ead56c6a322aac328f7f7e8383d02dd7cf8b8f2fabe5431f2e63", func := "loop.example/g00116/laws.FnExactTableXor", spec := "fnExactTableXor", unfollowed := true, recurses := true, apart := false }
def FnExactTableXorSaid : Prop := fnExactTableXorRow.holds Try.pinned (OpenSpec.ofChange fnExactTableXorSpec)

/-- ITS FALSE NEIGHBOUR: 'it returns false'. Refute it at one input. -/
def fnExactTableXorWrong : ChangeSpec := { name := "fnExactTableXor", fn := fun _ => fun
  | [d1, d2] => { results := [.lit (.bool false)], args := [d1, d2] }
  | _ => none }
def FnExactTableXorWrongFalsely : Prop := fnExactTableXorRow.holds Try.pinned (OpenSpec.ofChange fnExactTableXorWrong)

/-- 'laws.FnExactTableAt': WHATEVER THE INPUT: true; the input reads as it did. -/
def fnExactTableAtSpec : ChangeSpec := { name := "fnExactTableAt", fn := fun _ => fun
  | [d1, d2] => { results := [.lit (.bool true)], args := [d1, d2] }
  | _ => none }
def fnExactTableAtRow : OpenClaim := { program := "ytfincfnklcllnaa", sum := "b06009a43372ead56c6a322aac328f7f7e8383d02dd7cf8b8f2fabe5431f2e63", func := "loop.example/g00116/laws.FnExactTableAt", spec := "fnExactTableAt", apart := false }
def FnExactTableAtSaid : Prop := fnExactTableAtRow.holds Try.pinned (OpenSpec.ofChange fnExactTableAtSpec)

/-- ITS FALSE NEIGHBOUR: 'it returns false'. Refute it at one input. -/
def fnExactTableAtWrong : ChangeSpec := { name := "fnExactTableAt", fn := fun _ => fun
  | [d1, d2] => { results := [.lit (.bool false)], args := [d1, d2] }
  | _ => none }
def FnExactTableAtWrongFalsely : Prop := fnExactTableAtRow.holds Try.pinned (OpenSpec.ofChange fnExactTableAtWrong)

/-- 'laws.FnExactNeeds': WHATEVER THE INPUT: true; the input reads as it did. -/
def fnExactNeedsSpec : ChangeSpec := { name := "fnExactNeeds", fn := fun _ => fun
  | [d] => { results := [.lit (.bool true)], args := [d] }
  | _ => none }
def fnExactNeedsRow : OpenClaim := { program := "ytfincfnklcllnaa", sum := "b06009a43372ead56c6a322aac328f7f7e8383d02dd7cf8b8f2fabe5431f2e63", func := "loop.example/g00116/laws.FnExactNeeds", spec := "fnExactNeeds", apart := false }
def FnExactNeedsSaid : Prop := fnExactNeedsRow.holds Try.pinned (OpenSpec.ofChange fnExactNeedsSpec)

/-- ITS FALSE NEIGHBOUR: 'it returns false'. Refute it at one input. -/
def fnExactNeedsWrong : ChangeSpec := { name := "fnExactNeeds", fn := fun _ => fun
  | [d] => { results := [.lit (.bool false)], args := [d] }
  | _ => none }
def FnExactNeedsWrongFalsely : Prop := fnExactNeedsRow.holds Try.pinned (OpenSpec.ofChange fnExactNeedsWrong)

/-- 'laws.FnExactIdle': WHATEVER THE INPUT: true; the input reads as it did. -/
def fnExactIdleSpec : ChangeSpec := { name := "fnExactIdle", fn := fun _ => fun
  | [d1, d2] => { results := [.lit (.bool true)], args := [d1, d2] }
  | _ => none }
def fnExactIdleRow : OpenClaim := { program := "ytfincfnklcllnaa", sum := "b06009a43372ead56c6a322aac328f7f7e8383d02dd7cf8b8f2fabe5431f2e63", func := "loop.example/g00116/laws.FnExactIdle", spec := "fnExactIdle", apart := false }
def FnExactIdleSaid : Prop := fnExactIdleRow.holds Try.pinned (OpenSpec.ofChange fnExactIdleSpec)

/-- ITS FALSE NEIGHBOUR: 'it returns false'. Refute it at one input. -/
def fnExactIdleWrong : ChangeSpec := { name := "fnExactIdle", fn := fun _ => fun
  | [d1, d2] => { results := [.lit (.bool false)], args := [d1, d2] }
  | _ => none }
def FnExactIdleWrongFalsely : Prop := fnExactIdleRow.holds Try.pinned (OpenSpec.ofChange fnExactIdleWrong)

/-- 'laws.FnExactMerge': WHATEVER THE INPUT: true; the input reads as it did. -/
def fnExactMergeSpec : ChangeSpec := { name := "fnExactMerge", fn := fun _ => fun
  | [d1, d2, d3] => { results := [.lit (.bool true)], args := [d1, d2, d3] }
  | _ => none }
def fnExactMergeRow : OpenClaim := { program := "ytfincfnklcllnaa", sum := "b06009a43372ead56c6a322aac328f7f7e8383d02dd7cf8b8f2fabe5431f2e63", func := "loop.example/g00116/laws.FnExactMerge", spec := "fnExactMerge", unfollowed := true, recurses := true, apart := false }
def FnExactMergeSaid : Prop := fnExactMergeRow.holds Try.pinned (OpenSpec.ofChange fnExactMergeSpec)

/-- ITS FALSE NEIGHBOUR: 'it returns false'. Refute it at one input. -/
def fnExactMergeWrong : ChangeSpec := { name := "fnExactMerge", fn := fun _ => fun
  | [d1, d2, d3] => { results := [.lit (.bool false)], args := [d1, d2, d3] }
  | _ => none }
def FnExactMergeWrongFalsely : Prop := fnExactMergeRow.holds Try.pinned (OpenSpec.ofChange fnExactMergeWrong)

/-- 'laws.FnExactKnown': WHATEVER THE INPUT: true; the input reads as it did. -/
def fnExactKnownSpec : ChangeSpec := { name := "fnExactKnown", fn := fun _ => fun
  | [d] => { results := [.lit (.bool true)], args := [d] }
  | _ => none }
def fnExactKnownRow : OpenClaim := { program := "ytfincfnklcllnaa", sum := "b06009a43372ead56c6a322aac328f7f7e8383d02dd7cf8b8f2fabe5431f2e63", func := "loop.example/g00116/laws.FnExactKnown", spec := "fnExactKnown", inPlace := ["internal/bytealg.IndexByteString", "internal/bytealg.IndexString"], named := ["internal/bytealg.MaxLen"], apart := false }
def FnExactKnownSaid : Prop := fnExactKnownRow.holds Try.pinned (OpenSpec.ofChange fnExactKnownSpec)

/-- ITS FALSE NEIGHBOUR: 'it returns false'. Refute it at one input. -/
def fnExactKnownWrong : ChangeSpec := { name := "fnExactKnown", fn := fun _ => fun
  | [d] => { results := [.lit (.bool false)], args := [d] }
  | _ => none }
def FnExactKnownWrongFalsely : Prop := fnExactKnownRow.holds Try.pinned (OpenSpec.ofChange fnExactKnownWrong)

/-- 'laws.FnExactTableCount': WHATEVER THE INPUT: true; the input reads as it did. -/
def fnExactTableCountSpec : ChangeSpec := { name := "fnExactTableCount", fn := fun _ => fun
  | [d] => { results := [.lit (.bool true)], args := [d] }
  | _ => none }
def fnExactTableCountRow : OpenClaim := { program := "ytfincfnklcllnaa", sum := "b06009a43372ead56c6a322aac328f7f7e8383d02dd7cf8b8f2fabe5431f2e63", func := "loop.example/g00116/laws.FnExactTableCount", spec := "fnExactTableCount", inPlace := ["internal/bytealg.CountString", "internal/bytealg.IndexByteString", "internal/bytealg.IndexString"], named := ["internal/bytealg.MaxLen"], apart := false }
def FnExactTableCountSaid : Prop := fnExactTableCountRow.holds Try.pinned (OpenSpec.ofChange fnExactTableCountSpec)

/-- ITS FALSE NEIGHBOUR: 'it returns false'. Refute it at one input. -/
def fnExactTableCountWrong : ChangeSpec := { name := "fnExactTableCount", fn := fun _ => fun
  | [d] => { results := [.lit (.bool false)], args := [d] }
  | _ => none }
def FnExactTableCountWrongFalsely : Prop := fnExactTableCountRow.holds Try.pinned (OpenSpec.ofChange fnExactTableCountWrong)

/- THE SECOND FORM. 'bulk': how many values and letters a reading holds, each counted each time it is reached (what is shared counts as often as it is met; a slice's spare places count too). A statement '..UptoSaid' is the law's where the arguments, and the package variables that the reading takes, are together of bulk at most 1048576: NARROWER than '..Said'. Prove '..Said' where nothing that the law and all that it calls make is longer than what came in: it says more and counts as full. Else prove '..UptoSaid'. A law counts once. -/
mutual
def uptoBulk {H : Type} : DataW H → Nat
  | .lit (.string bytes) => bytes.length + 1
  | .lit _ => 1
  | .nil => 1
  | .ptr d => uptoBulk d + 1
  | .slice elems spare => uptoBulkAll elems + uptoBulkAll spare + 1
  | .agg parts => uptoBulkAll parts + 1
  | .iface _ d => uptoBulk d + 1
  | .map entries => uptoBulkEntries entries + 1
  | .held _ => 1
def uptoBulkAll {H : Type} : List (DataW H) → Nat
  | [] => 0
  | d :: r => uptoBulk d + uptoBulkAll r
def uptoBulkEntries {H : Type} : List (Lit × DataW H) → Nat
  | [] => 0
  | x :: r => uptoBulkEntry x + uptoBulkEntries r
def uptoBulkEntry {H : Type} : Lit × DataW H → Nat
  | (.string bytes, d) => bytes.length + uptoBulk d + 1
  | (_, d) => uptoBulk d + 1
 end
def uptoSmall : (H : Type) → List (DataW H) → Bool := fun _ ds => decide (uptoBulkAll ds ≤ 1048576)
def OpenSpec.upto (s : _root_.Go.ChangeSpec) : _root_.Go.OpenSpec := { _root_.Go.OpenSpec.ofChange s with cond := some uptoSmall }

/-- 'laws.FnExactTurned', WHERE WHAT IT READS IS OF BULK AT MOST 1048576: true; the input reads as it did. -/
def fnExactTurnedUptoRow : OpenClaim := { program := "ytfincfnklcllnaa", sum := "b06009a43372ead56c6a322aac328f7f7e8383d02dd7cf8b8f2fabe5431f2e63", func := "loop.example/g00116/laws.FnExactTurned", spec := "fnExactTurned", apart := false, narrowed := true }
def FnExactTurnedUptoSaid : Prop := fnExactTurnedUptoRow.holds Try.pinned (OpenSpec.upto fnExactTurnedSpec)

/-- 'laws.FnExactOwner', WHERE WHAT IT READS IS OF BULK AT MOST 1048576: true; the input reads as it did. -/
def fnExactOwnerUptoRow : OpenClaim := { program := "ytfincfnklcllnaa", sum := "b06009a43372ead56c6a322aac328f7f7e8383d02dd7cf8b8f2fabe5431f2e63", func := "loop.example/g00116/laws.FnExactOwner", spec := "fnExactOwner", apart := false, narrowed := true }
def FnExactOwnerUptoSaid : Prop := fnExactOwnerUptoRow.holds Try.pinned (OpenSpec.upto fnExactOwnerSpec)

/-- 'laws.FnExactTableNot', WHERE WHAT IT READS IS OF BULK AT MOST 1048576: true; the input reads as it did. -/
def fnExactTableNotUptoRow : OpenClaim := { program := "ytfincfnklcllnaa", sum := "b06009a43372ead56c6a322aac328f7f7e8383d02dd7cf8b8f2fabe5431f2e63", func := "loop.example/g00116/laws.FnExactTableNot", spec := "fnExactTableNot", unfollowed := true, recurses := true, apart := false, narrowed := true }
def FnExactTableNotUptoSaid : Prop := fnExactTableNotUptoRow.holds Try.pinned (OpenSpec.upto fnExactTableNotSpec)

/-- 'laws.FnExactTableKey', WHERE WHAT IT READS IS OF BULK AT MOST 1048576: true; the input reads as it did. -/
def fnExactTableKeyUptoRow : OpenClaim := { program := "ytfincfnklcllnaa", sum := "b06009a43372ead56c6a322aac328f7f7e8383d02dd7cf8b8f2fabe5431f2e63", func := "loop.example/g00116/laws.FnExactTableKey", spec := "fnExactTableKey", apart := false, narrowed := true }
def FnExactTableKeyUptoSaid : Prop := fnExactTableKeyUptoRow.holds Try.pinned (OpenSpec.upto fnExactTableKeySpec)

/-- 'laws.FnExactTableAnd', WHERE WHAT IT READS IS OF BULK AT MOST 1048576: true; the input reads as it did. -/
def fnExactTableAndUptoRow : OpenClaim := { program := "ytfincfnklcllnaa", sum := "b06009a43372ead56c6a322aac328f7f7e8383d02dd7cf8b8f2fabe5431f2e63", func := "loop.example/g00116/laws.FnExactTableAnd", spec := "fnExactTableAnd", unfollowed := true, recurses := true, apart := false, narrowed := true }
def FnExactTableAndUptoSaid : Prop := fnExactTableAndUptoRow.holds Try.pinned (OpenSpec.upto fnExactTableAndSpec)

/-- 'laws.FnExactTableXor', WHERE WHAT IT READS IS OF BULK AT MOST 1048576: true; the input reads as it did. -/
def fnExactTableXorUptoRow : OpenClaim := { program := "ytfincfnklcllnaa", sum := "b06009a43372ead56c6a322aac328f7f7e8383d02dd7cf8b8f2fabe5431f2e63", func := "loop.example/g00116/laws.FnExactTableXor", spec := "fnExactTableXor", unfollowed := true, recurses := true, apart := false, narrowed := true }
def FnExactTableXorUptoSaid : Prop := fnExactTableXorUptoRow.holds Try.pinned (OpenSpec.upto fnExactTableXorSpec)

/-- 'laws.FnExactTableAt', WHERE WHAT IT READS IS OF BULK AT MOST 1048576: true; the input reads as it did. -/
def fnExactTableAtUptoRow : OpenClaim := { program := "ytfincfnklcllnaa", sum := "b06009a43372ead56c6a322aac328f7f7e8383d02dd7cf8b8f2fabe5431f2e63", func := "loop.example/g00116/laws.FnExactTableAt", spec := "fnExactTableAt", apart := false, narrowed := true }
def FnExactTableAtUptoSaid : Prop := fnExactTableAtUptoRow.holds Try.pinned (OpenSpec.upto fnExactTableAtSpec)

/-- 'laws.FnExactNeeds', WHERE WHAT IT READS IS OF BULK AT MOST 1048576: true; the input reads as it did. -/
def fnExactNeedsUptoRow : OpenClaim := { program := "ytfincfnklcllnaa", sum := "b06009a43372ead56c6a322aac328f7f7e8383d02dd7cf8b8f2fabe5431f2e63", func := "loop.example/g00116/laws.FnExactNeeds", spec := "fnExactNeeds", apart := false, narrowed := true }
def FnExactNeedsUptoSaid : Prop := fnExactNeedsUptoRow.holds Try.pinned (OpenSpec.upto fnExactNeedsSpec)

/-- 'laws.FnExactIdle', WHERE WHAT IT READS IS OF BULK AT MOST 1048576: true; the input reads as it did. -/
def fnExactIdleUptoRow : OpenClaim := { program := "ytfincfnklcllnaa", sum := "b06009a43372ead56c6a322aac328f7f7e8383d02dd7cf8b8f2fabe5431f2e63", func := "loop.example/g00116/laws.FnExactIdle", spec := "fnExactIdle", apart := false, narrowed := true }
def FnExactIdleUptoSaid : Prop := fnExactIdleUptoRow.holds Try.pinned (OpenSpec.upto fnExactIdleSpec)

/-- 'laws.FnExactMerge', WHERE WHAT IT READS IS OF BULK AT MOST 1048576: true; the input reads as it did. -/
def fnExactMergeUptoRow : OpenClaim := { program := "ytfincfnklcllnaa", sum := "b06009a43372ead56c6a322aac328f7f7e8383d02dd7cf8b8f2fabe5431f2e63", func := "loop.example/g00116/laws.FnExactMerge", spec := "fnExactMerge", unfollowed := true, recurses := true, apart := false, narrowed := true }
def FnExactMergeUptoSaid : Prop := fnExactMergeUptoRow.holds Try.pinned (OpenSpec.upto fnExactMergeSpec)

/-- 'laws.FnExactKnown', WHERE WHAT IT READS IS OF BULK AT MOST 1048576: true; the input reads as it did. -/
def fnExactKnownUptoRow : OpenClaim := { program := "ytfincfnklcllnaa", sum := "b06009a43372ead56c6a322aac328f7f7e8383d02dd7cf8b8f2fabe5431f2e63", func := "loop.example/g00116/laws.FnExactKnown", spec := "fnExactKnown", inPlace := ["internal/bytealg.IndexByteString", "internal/bytealg.IndexString"], named := ["internal/bytealg.MaxLen"], apart := false, narrowed := true }
def FnExactKnownUptoSaid : Prop := fnExactKnownUptoRow.holds Try.pinned (OpenSpec.upto fnExactKnownSpec)

/-- 'laws.FnExactTableCount', WHERE WHAT IT READS IS OF BULK AT MOST 1048576: true; the input reads as it did. -/
def fnExactTableCountUptoRow : OpenClaim := { program := "ytfincfnklcllnaa", sum := "b06009a43372ead56c6a322aac328f7f7e8383d02dd7cf8b8f2fabe5431f2e63", func := "loop.example/g00116/laws.FnExactTableCount", spec := "fnExactTableCount", inPlace := ["internal/bytealg.CountString", "internal/bytealg.IndexByteString", "internal/bytealg.IndexString"], named := ["internal/bytealg.MaxLen"], apart := false, narrowed := true }
def FnExactTableCountUptoSaid : Prop := fnExactTableCountUptoRow.holds Try.pinned (OpenSpec.upto fnExactTableCountSpec)

end Rows
end Go.Proofs.Ytfincfnklcllnaa
