/-
  No cell of these rows narrows 'for every input' (looked for: loops, veiled, ifaces, maps, wideKeys, modest, calm, conditions, laid).
  DERIVED. THE GIVEN ROWS OF THIS SEAT. 12 by the template 'for every input the law returns true; each argument reads behind the call as it read before'; 0 by the template 'total and deterministic' (their statements: YtoiacoiccpiciaaTotals.lean).
  GIVEN WITH THE SEED: the statements are not yours to turn. If you find one false, say at which input.
  Laid BY PROGRAM, IN A SANDBOX (cutbox-rows.mjs): the forced cells as the released guide's own fill.sh prints them over the translation f810011bf5ea4f88… (all of the seat's roots in one cut). By AI agents, Wed Nov 11 2026. No macro, syntax, notation, axiom, sorry.
-/
import Derived.Test.YtoiacoiccpiciaaChecked
import GoSem.Claim
import GoSem.ClaimJoined
import GoSem.ClaimMapViews
import Derived.JoinedTies
import Derived.KernelRfl
namespace Go.Proofs.Ytoiacoiccpiciaa
/- THE CELL 'sum', in the pinned program and in every row, IS THE sha256 OF THE DUMP (.gsa) THAT YtoiacoiccpiciaaProg.lean LOADS. Nothing in Lean hashes anything: it is a label: what it is worth is what the hold of that sum in a sandbox is worth. -/
noncomputable def Try.pinned : Pinned := { name := "ytoiacoiccpiciaa", sum := "f810011bf5ea4f88269e63ec6175ec98de8f111444616b101b49e96d6956f38b", checked := Try.checked }
namespace Rows
def none {H : Type} : Left H := { results := [], args := [] }

/-- 'laws.FnExactSameCoins': WHATEVER THE INPUT: true; the input reads as it did. -/
def fnExactSameCoinsSpec : ChangeSpec := { name := "fnExactSameCoins", fn := fun _ => fun
  | [d1, d2] => { results := [.lit (.bool true)], args := [d1, d2] }
  | _ => none }
def fnExactSameCoinsRow : OpenClaim := { program := "ytoiacoiccpiciaa", sum := "f810011bf5ea4f88269e63ec6175ec98de8f111444616b101b49e96d6956f38b", func := "loop.example/g00304/laws.FnExactSameCoins", spec := "fnExactSameCoins", unfollowed := true, recurses := true, apart := false }
def FnExactSameCoinsSaid : Prop := fnExactSameCoinsRow.holds Try.pinned (OpenSpec.ofChange fnExactSameCoinsSpec)

/-- ITS FALSE NEIGHBOUR: 'it returns false'. Refute it at one input. -/
def fnExactSameCoinsWrong : ChangeSpec := { name := "fnExactSameCoins", fn := fun _ => fun
  | [d1, d2] => { results := [.lit (.bool false)], args := [d1, d2] }
  | _ => none }
def FnExactSameCoinsWrongFalsely : Prop := fnExactSameCoinsRow.holds Try.pinned (OpenSpec.ofChange fnExactSameCoinsWrong)

/-- 'laws.FnExactSameTxs': WHATEVER THE INPUT: true; the input reads as it did. -/
def fnExactSameTxsSpec : ChangeSpec := { name := "fnExactSameTxs", fn := fun _ => fun
  | [d1, d2] => { results := [.lit (.bool true)], args := [d1, d2] }
  | _ => none }
def fnExactSameTxsRow : OpenClaim := { program := "ytoiacoiccpiciaa", sum := "f810011bf5ea4f88269e63ec6175ec98de8f111444616b101b49e96d6956f38b", func := "loop.example/g00304/laws.FnExactSameTxs", spec := "fnExactSameTxs", unfollowed := true, recurses := true, apart := false }
def FnExactSameTxsSaid : Prop := fnExactSameTxsRow.holds Try.pinned (OpenSpec.ofChange fnExactSameTxsSpec)

/-- ITS FALSE NEIGHBOUR: 'it returns false'. Refute it at one input. -/
def fnExactSameTxsWrong : ChangeSpec := { name := "fnExactSameTxs", fn := fun _ => fun
  | [d1, d2] => { results := [.lit (.bool false)], args := [d1, d2] }
  | _ => none }
def FnExactSameTxsWrongFalsely : Prop := fnExactSameTxsRow.holds Try.pinned (OpenSpec.ofChange fnExactSameTxsWrong)

/-- 'laws.FnExactCoinsFault': WHATEVER THE INPUT: true; the input reads as it did. -/
def fnExactCoinsFaultSpec : ChangeSpec := { name := "fnExactCoinsFault", fn := fun _ => fun
  | [d] => { results := [.lit (.bool true)], args := [d] }
  | _ => none }
def fnExactCoinsFaultRow : OpenClaim := { program := "ytoiacoiccpiciaa", sum := "f810011bf5ea4f88269e63ec6175ec98de8f111444616b101b49e96d6956f38b", func := "loop.example/g00304/laws.FnExactCoinsFault", spec := "fnExactCoinsFault", unfollowed := true, recurses := true, apart := false }
def FnExactCoinsFaultSaid : Prop := fnExactCoinsFaultRow.holds Try.pinned (OpenSpec.ofChange fnExactCoinsFaultSpec)

/-- ITS FALSE NEIGHBOUR: 'it returns false'. Refute it at one input. -/
def fnExactCoinsFaultWrong : ChangeSpec := { name := "fnExactCoinsFault", fn := fun _ => fun
  | [d] => { results := [.lit (.bool false)], args := [d] }
  | _ => none }
def FnExactCoinsFaultWrongFalsely : Prop := fnExactCoinsFaultRow.holds Try.pinned (OpenSpec.ofChange fnExactCoinsFaultWrong)

/-- 'laws.FnExactTxFault': WHATEVER THE INPUT: true; the input reads as it did. -/
def fnExactTxFaultSpec : ChangeSpec := { name := "fnExactTxFault", fn := fun _ => fun
  | [d] => { results := [.lit (.bool true)], args := [d] }
  | _ => none }
def fnExactTxFaultRow : OpenClaim := { program := "ytoiacoiccpiciaa", sum := "f810011bf5ea4f88269e63ec6175ec98de8f111444616b101b49e96d6956f38b", func := "loop.example/g00304/laws.FnExactTxFault", spec := "fnExactTxFault", unfollowed := true, recurses := true, apart := false }
def FnExactTxFaultSaid : Prop := fnExactTxFaultRow.holds Try.pinned (OpenSpec.ofChange fnExactTxFaultSpec)

/-- ITS FALSE NEIGHBOUR: 'it returns false'. Refute it at one input. -/
def fnExactTxFaultWrong : ChangeSpec := { name := "fnExactTxFault", fn := fun _ => fun
  | [d] => { results := [.lit (.bool false)], args := [d] }
  | _ => none }
def FnExactTxFaultWrongFalsely : Prop := fnExactTxFaultRow.holds Try.pinned (OpenSpec.ofChange fnExactTxFaultWrong)

/-- 'laws.FnExactSameStates': WHATEVER THE INPUT: true; the input reads as it did. -/
def fnExactSameStatesSpec : ChangeSpec := { name := "fnExactSameStates", fn := fun _ => fun
  | [d1, d2] => { results := [.lit (.bool true)], args := [d1, d2] }
  | _ => none }
def fnExactSameStatesRow : OpenClaim := { program := "ytoiacoiccpiciaa", sum := "f810011bf5ea4f88269e63ec6175ec98de8f111444616b101b49e96d6956f38b", func := "loop.example/g00304/laws.FnExactSameStates", spec := "fnExactSameStates", unfollowed := true, recurses := true, apart := false }
def FnExactSameStatesSaid : Prop := fnExactSameStatesRow.holds Try.pinned (OpenSpec.ofChange fnExactSameStatesSpec)

/-- ITS FALSE NEIGHBOUR: 'it returns false'. Refute it at one input. -/
def fnExactSameStatesWrong : ChangeSpec := { name := "fnExactSameStates", fn := fun _ => fun
  | [d1, d2] => { results := [.lit (.bool false)], args := [d1, d2] }
  | _ => none }
def FnExactSameStatesWrongFalsely : Prop := fnExactSameStatesRow.holds Try.pinned (OpenSpec.ofChange fnExactSameStatesWrong)

/-- 'laws.FnExactCoinSum': WHATEVER THE INPUT: true; the input reads as it did. -/
def fnExactCoinSumSpec : ChangeSpec := { name := "fnExactCoinSum", fn := fun _ => fun
  | [d] => { results := [.lit (.bool true)], args := [d] }
  | _ => none }
def fnExactCoinSumRow : OpenClaim := { program := "ytoiacoiccpiciaa", sum := "f810011bf5ea4f88269e63ec6175ec98de8f111444616b101b49e96d6956f38b", func := "loop.example/g00304/laws.FnExactCoinSum", spec := "fnExactCoinSum", unfollowed := true, recurses := true, apart := false }
def FnExactCoinSumSaid : Prop := fnExactCoinSumRow.holds Try.pinned (OpenSpec.ofChange fnExactCoinSumSpec)

/-- ITS FALSE NEIGHBOUR: 'it returns false'. Refute it at one input. -/
def fnExactCoinSumWrong : ChangeSpec := { name := "fnExactCoinSum", fn := fun _ => fun
  | [d] => { results := [.lit (.bool false)], args := [d] }
  | _ => none }
def FnExactCoinSumWrongFalsely : Prop := fnExactCoinSumRow.holds Try.pinned (OpenSpec.ofChange fnExactCoinSumWrong)

/-- 'laws.FnExactClashTx': WHATEVER THE INPUT: true; the input reads as it did. -/
def fnExactClashTxSpec : ChangeSpec := { name := "fnExactClashTx", fn := fun _ => fun
  | [d1, d2] => { results := [.lit (.bool true)], args := [d1, d2] }
  | _ => none }
def fnExactClashTxRow : OpenClaim := { program := "ytoiacoiccpiciaa", sum := "f810011bf5ea4f88269e63ec6175ec98de8f111444616b101b49e96d6956f38b", func := "loop.example/g00304/laws.FnExactClashTx", spec := "fnExactClashTx", unfollowed := true, recurses := true, apart := false }
def FnExactClashTxSaid : Prop := fnExactClashTxRow.holds Try.pinned (OpenSpec.ofChange fnExactClashTxSpec)

/-- ITS FALSE NEIGHBOUR: 'it returns false'. Refute it at one input. -/
def fnExactClashTxWrong : ChangeSpec := { name := "fnExactClashTx", fn := fun _ => fun
  | [d1, d2] => { results := [.lit (.bool false)], args := [d1, d2] }
  | _ => none }
def FnExactClashTxWrongFalsely : Prop := fnExactClashTxRow.holds Try.pinned (OpenSpec.ofChange fnExactClashTxWrong)

/-- 'laws.FnExactOutSum': WHATEVER THE INPUT: true; the input reads as it did. -/
def fnExactOutSumSpec : ChangeSpec := { name := "fnExactOutSum", fn := fun _ => fun
  | [d] => { results := [.lit (.bool true)], args := [d] }
  | _ => none }
def fnExactOutSumRow : OpenClaim := { program := "ytoiacoiccpiciaa", sum := "f810011bf5ea4f88269e63ec6175ec98de8f111444616b101b49e96d6956f38b", func := "loop.example/g00304/laws.FnExactOutSum", spec := "fnExactOutSum", unfollowed := true, recurses := true, apart := false }
def FnExactOutSumSaid : Prop := fnExactOutSumRow.holds Try.pinned (OpenSpec.ofChange fnExactOutSumSpec)

/-- ITS FALSE NEIGHBOUR: 'it returns false'. Refute it at one input. -/
def fnExactOutSumWrong : ChangeSpec := { name := "fnExactOutSum", fn := fun _ => fun
  | [d] => { results := [.lit (.bool false)], args := [d] }
  | _ => none }
def FnExactOutSumWrongFalsely : Prop := fnExactOutSumRow.holds Try.pinned (OpenSpec.ofChange fnExactOutSumWrong)

/-- 'laws.FnExactStateFault': WHATEVER THE INPUT: true; the input reads as it did. -/
def fnExactStateFaultSpec : ChangeSpec := { name := "fnExactStateFault", fn := fun _ => fun
  | [d] => { results := [.lit (.bool true)], args := [d] }
  | _ => none }
def fnExactStateFaultRow : OpenClaim := { program := "ytoiacoiccpiciaa", sum := "f810011bf5ea4f88269e63ec6175ec98de8f111444616b101b49e96d6956f38b", func := "loop.example/g00304/laws.FnExactStateFault", spec := "fnExactStateFault", unfollowed := true, recurses := true, apart := false }
def FnExactStateFaultSaid : Prop := fnExactStateFaultRow.holds Try.pinned (OpenSpec.ofChange fnExactStateFaultSpec)

/-- ITS FALSE NEIGHBOUR: 'it returns false'. Refute it at one input. -/
def fnExactStateFaultWrong : ChangeSpec := { name := "fnExactStateFault", fn := fun _ => fun
  | [d] => { results := [.lit (.bool false)], args := [d] }
  | _ => none }
def FnExactStateFaultWrongFalsely : Prop := fnExactStateFaultRow.holds Try.pinned (OpenSpec.ofChange fnExactStateFaultWrong)

/-- 'laws.FnExactIdOf': WHATEVER THE INPUT: true; the input reads as it did. -/
def fnExactIdOfSpec : ChangeSpec := { name := "fnExactIdOf", fn := fun _ => fun
  | [d1, d2] => { results := [.lit (.bool true)], args := [d1, d2] }
  | _ => none }
def fnExactIdOfRow : OpenClaim := { program := "ytoiacoiccpiciaa", sum := "f810011bf5ea4f88269e63ec6175ec98de8f111444616b101b49e96d6956f38b", func := "loop.example/g00304/laws.FnExactIdOf", spec := "fnExactIdOf", apart := false }
def FnExactIdOfSaid : Prop := fnExactIdOfRow.holds Try.pinned (OpenSpec.ofChange fnExactIdOfSpec)

/-- ITS FALSE NEIGHBOUR: 'it returns false'. Refute it at one input. -/
def fnExactIdOfWrong : ChangeSpec := { name := "fnExactIdOf", fn := fun _ => fun
  | [d1, d2] => { results := [.lit (.bool false)], args := [d1, d2] }
  | _ => none }
def FnExactIdOfWrongFalsely : Prop := fnExactIdOfRow.holds Try.pinned (OpenSpec.ofChange fnExactIdOfWrong)

/-- 'laws.FnExactKeysOf': WHATEVER THE INPUT: true; the input reads as it did. -/
def fnExactKeysOfSpec : ChangeSpec := { name := "fnExactKeysOf", fn := fun _ => fun
  | [d] => { results := [.lit (.bool true)], args := [d] }
  | _ => none }
def fnExactKeysOfRow : OpenClaim := { program := "ytoiacoiccpiciaa", sum := "f810011bf5ea4f88269e63ec6175ec98de8f111444616b101b49e96d6956f38b", func := "loop.example/g00304/laws.FnExactKeysOf", spec := "fnExactKeysOf", unfollowed := true, recurses := true, apart := false }
def FnExactKeysOfSaid : Prop := fnExactKeysOfRow.holds Try.pinned (OpenSpec.ofChange fnExactKeysOfSpec)

/-- ITS FALSE NEIGHBOUR: 'it returns false'. Refute it at one input. -/
def fnExactKeysOfWrong : ChangeSpec := { name := "fnExactKeysOf", fn := fun _ => fun
  | [d] => { results := [.lit (.bool false)], args := [d] }
  | _ => none }
def FnExactKeysOfWrongFalsely : Prop := fnExactKeysOfRow.holds Try.pinned (OpenSpec.ofChange fnExactKeysOfWrong)

/-- 'laws.FnExactMemberOf': WHATEVER THE INPUT: true; the input reads as it did. -/
def fnExactMemberOfSpec : ChangeSpec := { name := "fnExactMemberOf", fn := fun _ => fun
  | [d1, d2] => { results := [.lit (.bool true)], args := [d1, d2] }
  | _ => none }
def fnExactMemberOfRow : OpenClaim := { program := "ytoiacoiccpiciaa", sum := "f810011bf5ea4f88269e63ec6175ec98de8f111444616b101b49e96d6956f38b", func := "loop.example/g00304/laws.FnExactMemberOf", spec := "fnExactMemberOf", unfollowed := true, recurses := true, apart := false }
def FnExactMemberOfSaid : Prop := fnExactMemberOfRow.holds Try.pinned (OpenSpec.ofChange fnExactMemberOfSpec)

/-- ITS FALSE NEIGHBOUR: 'it returns false'. Refute it at one input. -/
def fnExactMemberOfWrong : ChangeSpec := { name := "fnExactMemberOf", fn := fun _ => fun
  | [d1, d2] => { results := [.lit (.bool false)], args := [d1, d2] }
  | _ => none }
def FnExactMemberOfWrongFalsely : Prop := fnExactMemberOfRow.holds Try.pinned (OpenSpec.ofChange fnExactMemberOfWrong)

/- THE SECOND FORM. 'bulk': how many values and letters a reading holds, each counted each time it is reached (what is shared counts as often as it is met; a slice's spare places count too). A statement '..UptoSaid' is the law's where the arguments, and the package variables that the reading takes, are together of bulk at most 1048576: NARROWER than '..Said'. Prove '..Said' where nothing that the law and all that it calls make is longer than what came in: it says more and counts as full. Else prove '..UptoSaid'. A law counts once. -/
mutual
def uptoBulk {H : Type} : DataW H → Nat
  | .lit (.string bytes) => bytes.length + 1
  | .lit _ => 1
  | .nil => 1
  | .ptr d => uptoBulk d + 1
  | .slice elems spare => uptoBulkAll elems + uptoBulkAll spare + 1
  | .agg parts => uptoBulkAll parts + 1
  | .iface _ d => uptoBulk d + 1
  | .map entries => uptoBulkEntries entries + 1
  | .held _ => 1
def uptoBulkAll {H : Type} : List (DataW H) → Nat
  | [] => 0
  | d :: r => uptoBulk d + uptoBulkAll r
def uptoBulkEntries {H : Type} : List (Lit × DataW H) → Nat
  | [] => 0
  | x :: r => uptoBulkEntry x + uptoBulkEntries r
def uptoBulkEntry {H : Type} : Lit × DataW H → Nat
  | (.string bytes, d) => bytes.length + uptoBulk d + 1
  | (_, d) => uptoBulk d + 1
 end
def uptoSmall : (H : Type) → List (DataW H) → Bool := fun _ ds => decide (uptoBulkAll ds ≤ 1048576)
def OpenSpec.upto (s : _root_.Go.ChangeSpec) : _root_.Go.OpenSpec := { _root_.Go.OpenSpec.ofChange s with cond := some uptoSmall }

/-- 'laws.FnExactSameCoins', WHERE WHAT IT READS IS OF BULK AT MOST 1048576: true; the input reads as it did. -/
def fnExactSameCoinsUptoRow : OpenClaim := { program := "ytoiacoiccpiciaa", sum := "f810011bf5ea4f88269e63ec6175ec98de8f111444616b101b49e96d6956f38b", func := "loop.example/g00304/laws.FnExactSameCoins", spec := "fnExactSameCoins", unfollowed := true, recurses := true, apart := false, narrowed := true }
def FnExactSameCoinsUptoSaid : Prop := fnExactSameCoinsUptoRow.holds Try.pinned (OpenSpec.upto fnExactSameCoinsSpec)

/-- 'laws.FnExactSameTxs', WHERE WHAT IT READS IS OF BULK AT MOST 1048576: true; the input reads as it did. -/
def fnExactSameTxsUptoRow : OpenClaim := { program := "ytoiacoiccpiciaa", sum := "f810011bf5ea4f88269e63ec6175ec98de8f111444616b101b49e96d6956f38b", func := "loop.example/g00304/laws.FnExactSameTxs", spec := "fnExactSameTxs", unfollowed := true, recurses := true, apart := false, narrowed := true }
def FnExactSameTxsUptoSaid : Prop := fnExactSameTxsUptoRow.holds Try.pinned (OpenSpec.upto fnExactSameTxsSpec)

/-- 'laws.FnExactCoinsFault', WHERE WHAT IT READS IS OF BULK AT MOST 1048576: true; the input reads as it did. -/
def fnExactCoinsFaultUptoRow : OpenClaim := { program := "ytoiacoiccpiciaa", sum := "f810011bf5ea4f88269e63ec6175ec98de8f111444616b101b49e96d6956f38b", func := "loop.example/g00304/laws.FnExactCoinsFault", spec := "fnExactCoinsFault", unfollowed := true, recurses := true, apart := false, narrowed := true }
def FnExactCoinsFaultUptoSaid : Prop := fnExactCoinsFaultUptoRow.holds Try.pinned (OpenSpec.upto fnExactCoinsFaultSpec)

/-- 'laws.FnExactTxFault', WHERE WHAT IT READS IS OF BULK AT MOST 1048576: true; the input reads as it did. -/
def fnExactTxFaultUptoRow : OpenClaim := { program := "ytoiacoiccpiciaa", sum := "f810011bf5ea4f88269e63ec6175ec98de8f111444616b101b49e96d6956f38b", func := "loop.example/g00304/laws.FnExactTxFault", spec := "fnExactTxFault", unfollowed := true, recurses := true, apart := false, narrowed := true }
def FnExactTxFaultUptoSaid : Prop := fnExactTxFaultUptoRow.holds Try.pinned (OpenSpec.upto fnExactTxFaultSpec)

/-- 'laws.FnExactSameStates', WHERE WHAT IT READS IS OF BULK AT MOST 1048576: true; the input reads as it did. -/
def fnExactSameStatesUptoRow : OpenClaim := { program := "ytoiacoiccpiciaa", sum := "f810011bf5ea4f88269e63ec6175ec98de8f111444616b101b49e96d6956f38b", func := "loop.example/g00304/laws.FnExactSameStates", spec := "fnExactSameStates", unfollowed := true, recurses := true, apart := false, narrowed := true }
def FnExactSameStatesUptoSaid : Prop := fnExactSameStatesUptoRow.holds Try.pinned (OpenSpec.upto fnExactSameStatesSpec)

/-- 'laws.FnExactCoinSum', WHERE WHAT IT READS IS OF BULK AT MOST 1048576: true; the input reads as it did. -/
def fnExactCoinSumUptoRow : OpenClaim := { program := "ytoiacoiccpiciaa", sum := "f810011bf5ea4f88269e63ec6175ec98de8f111444616b101b49e96d6956f38b", func := "loop.example/g00304/laws.FnExactCoinSum", spec := "fnExactCoinSum", unfollowed := true, recurses := true, apart := false, narrowed := true }
def FnExactCoinSumUptoSaid : Prop := fnExactCoinSumUptoRow.holds Try.pinned (OpenSpec.upto fnExactCoinSumSpec)

/-- 'laws.FnExactClashTx', WHERE WHAT IT READS IS OF BULK AT MOST 1048576: true; the input reads as it did. -/
def fnExactClashTxUptoRow : OpenClaim := { program := "ytoiacoiccpiciaa", sum := "f810011bf5ea4f88269e63ec6175ec98de8f111444616b101b49e96d6956f38b", func := "loop.example/g00304/laws.FnExactClashTx", spec := "fnExactClashTx", unfollowed := true, recurses := true, apart := false, narrowed := true }
def FnExactClashTxUptoSaid : Prop := fnExactClashTxUptoRow.holds Try.pinned (OpenSpec.upto fnExactClashTxSpec)

/-- 'laws.FnExactOutSum', WHERE WHAT IT READS IS OF BULK AT MOST 1048576: true; the input reads as it did. -/
def fnExactOutSumUptoRow : OpenClaim := { program := "ytoiacoiccpiciaa", sum := "f810011bf5ea4f88269e63ec6175ec98de8f111444616b101b49e96d6956f38b", func := "loop.example/g00304/laws.FnExactOutSum", spec := "fnExactOutSum", unfollowed := true, recurses := true, apart := false, narrowed := true }
def FnExactOutSumUptoSaid : Prop := fnExactOutSumUptoRow.holds Try.pinned (OpenSpec.upto fnExactOutSumSpec)

/-- 'laws.FnExactStateFault', WHERE WHAT IT READS IS OF BULK AT MOST 1048576: true; the input reads as it did. -/
def fnExactStateFaultUptoRow : OpenClaim := { program := "ytoiacoiccpiciaa", sum := "f810011bf5ea4f88269e63ec6175ec98de8f111444616b101b49e96d6956f38b", func := "loop.example/g00304/laws.FnExactStateFault", spec := "fnExactStateFault", unfollowed := true, recurses := true, apart := false, narrowed := true }
def FnExactStateFaultUptoSaid : Prop := fnExactStateFaultUptoRow.holds Try.pinned (OpenSpec.upto fnExactStateFaultSpec)

/-- 'laws.FnExactIdOf', WHERE WHAT IT READS IS OF BULK AT MOST 1048576: true; the input reads as it did. -/
def fnExactIdOfUptoRow : OpenClaim := { program := "ytoiacoiccpiciaa", sum := "f810011bf5ea4f88269e63ec6175ec98de8f111444616b101b49e96d6956f38b", func := "loop.example/g00304/laws.FnExactIdOf", spec := "fnExactIdOf", apart := false, narrowed := true }
def FnExactIdOfUptoSaid : Prop := fnExactIdOfUptoRow.holds Try.pinned (OpenSpec.upto fnExactIdOfSpec)

/-- 'laws.FnExactKeysOf', WHERE WHAT IT READS IS OF BULK AT MOST 1048576: true; the input reads as it did. -/
def fnExactKeysOfUptoRow : OpenClaim := { program := "ytoiacoiccpiciaa", sum := "f810011bf5ea4f88269e63ec6175ec98de8f111444616b101b49e96d6956f38b", func := "loop.example/g00304/laws.FnExactKeysOf", spec := "fnExactKeysOf", unfollowed := true, recurses := true, apart := false, narrowed := true }
def FnExactKeysOfUptoSaid : Prop := fnExactKeysOfUptoRow.holds Try.pinned (OpenSpec.upto fnExactKeysOfSpec)

/-- 'laws.FnExactMemberOf', WHERE WHAT IT READS IS OF BULK AT MOST 1048576: true; the input reads as it did. -/
def fnExactMemberOfUptoRow : OpenClaim := { program := "ytoiacoiccpiciaa", sum := "f810011bf5ea4f88269e63ec6175ec98de8f111444616b101b49e96d6956f38b", func := "loop.example/g00304/laws.FnExactMemberOf", spec := "fnExactMemberOf", unfollowed := true, recurses := true, apart := false, narrowed := true }
def FnExactMemberOfUptoSaid : Prop := fnExactMemberOfUptoRow.holds Try.pinned (OpenSpec.upto fnExactMemberOfSpec)

end Rows
end Go.Proofs.Ytoiacoiccpiciaa
