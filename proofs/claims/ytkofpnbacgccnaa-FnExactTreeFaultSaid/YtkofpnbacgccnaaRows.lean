/-
  No cell of these rows narrows 'for every input' (looked for: loops, veiled, ifaces, maps, wideKeys, modest, calm, conditions, laid).
  DERIVED. THE GIVEN ROWS OF THIS SEAT. 12 by the template 'for every input the law returns true; each argument reads behind the call as it read before'; 0 by the template 'total and deterministic' (their statements: YtkofpnbacgccnaaTotals.lean).
  GIVEN WITH THE SEED: the statements are not yours to turn. If you find one false, say at which input.
  Laid BY PROGRAM, IN A SANDBOX (cutbox-rows.mjs): the forced cells as the released guide's own fill.sh prints them over the translation 06387902ba8ab5bc… (all of the seat's roots in one cut). By AI agents, Wed Nov 11 2026. No macro, syntax, notation, axiom, sorry.
-/
import Derived.Test.YtkofpnbacgccnaaChecked
import GoSem.Claim
import GoSem.ClaimJoined
import GoSem.ClaimMapViews
import Derived.JoinedTies
import Derived.KernelRfl
namespace Go.Proofs.Ytkofpnbacgccnaa
/- THE CELL 'sum', in the pinned program and in every row, IS THE sha256 OF THE DUMP (.gsa) THAT YtkofpnbacgccnaaProg.lean LOADS. Nothing in Lean hashes anything: it is a label: what it is worth is what the hold of that sum in a sandbox is worth. -/
noncomputable def Try.pinned : Pinned := { name := "ytkofpnbacgccnaa", sum := "06387902ba8ab5bcd0b35691a1d952a13ef251954707750b12f2fee40d6eba13", checked := Try.checked }
namespace Rows
def none {H : Type} : Left H := { results := [], args := [] }

/-- 'laws.FnExactConstants': WHATEVER THE INPUT: true; the input reads as it did. -/
def fnExactConstantsSpec : ChangeSpec := { name := "fnExactConstants", fn := fun _ => fun
  | [] => { results := [.lit (.bool true)], args := [] }
  | _ => none }
def fnExactConstantsRow : OpenClaim := { program := "ytkofpnbacgccnaa", sum := "06387902ba8ab5bcd0b35691a1d952a13ef251954707750b12f2fee40d6eba13", func := "loop.example/g00304/laws.FnExactConstants", spec := "fnExactConstants", apart := false }
def FnExactConstantsSaid : Prop := fnExactConstantsRow.holds Try.pinned (OpenSpec.ofChange fnExactConstantsSpec)

/-- ITS FALSE NEIGHBOUR: 'it returns false'. Refute it at one input. -/
def fnExactConstantsWrong : ChangeSpec := { name := "fnExactConstants", fn := fun _ => fun
  | [] => { results := [.lit (.bool false)], args := [] }
  | _ => none }
def FnExactConstantsWrongFalsely : Prop := fnExactConstantsRow.holds Try.pinned (OpenSpec.ofChange fnExactConstantsWrong)

/-- 'laws.FnExactRewardOf': WHATEVER THE INPUT: true; the input reads as it did. -/
def fnExactRewardOfSpec : ChangeSpec := { name := "fnExactRewardOf", fn := fun _ => fun
  | [d] => { results := [.lit (.bool true)], args := [d] }
  | _ => none }
def fnExactRewardOfRow : OpenClaim := { program := "ytkofpnbacgccnaa", sum := "06387902ba8ab5bcd0b35691a1d952a13ef251954707750b12f2fee40d6eba13", func := "loop.example/g00304/laws.FnExactRewardOf", spec := "fnExactRewardOf", apart := false }
def FnExactRewardOfSaid : Prop := fnExactRewardOfRow.holds Try.pinned (OpenSpec.ofChange fnExactRewardOfSpec)

/-- ITS FALSE NEIGHBOUR: 'it returns false'. Refute it at one input. -/
def fnExactRewardOfWrong : ChangeSpec := { name := "fnExactRewardOf", fn := fun _ => fun
  | [d] => { results := [.lit (.bool false)], args := [d] }
  | _ => none }
def FnExactRewardOfWrongFalsely : Prop := fnExactRewardOfRow.holds Try.pinned (OpenSpec.ofChange fnExactRewardOfWrong)

/-- 'laws.FnExactSupplyTo': WHATEVER THE INPUT: true; the input reads as it did. -/
def fnExactSupplyToSpec : ChangeSpec := { name := "fnExactSupplyTo", fn := fun _ => fun
  | [d] => { results := [.lit (.bool true)], args := [d] }
  | _ => none }
def fnExactSupplyToRow : OpenClaim := { program := "ytkofpnbacgccnaa", sum := "06387902ba8ab5bcd0b35691a1d952a13ef251954707750b12f2fee40d6eba13", func := "loop.example/g00304/laws.FnExactSupplyTo", spec := "fnExactSupplyTo", apart := false }
def FnExactSupplyToSaid : Prop := fnExactSupplyToRow.holds Try.pinned (OpenSpec.ofChange fnExactSupplyToSpec)

/-- ITS FALSE NEIGHBOUR: 'it returns false'. Refute it at one input. -/
def fnExactSupplyToWrong : ChangeSpec := { name := "fnExactSupplyTo", fn := fun _ => fun
  | [d] => { results := [.lit (.bool false)], args := [d] }
  | _ => none }
def FnExactSupplyToWrongFalsely : Prop := fnExactSupplyToRow.holds Try.pinned (OpenSpec.ofChange fnExactSupplyToWrong)

/-- 'laws.FnExactSameMembers': WHATEVER THE INPUT: true; the input reads as it did. -/
def fnExactSameMembersSpec : ChangeSpec := { name := "fnExactSameMembers", fn := fun _ => fun
  | [d1, d2] => { results := [.lit (.bool true)], args := [d1, d2] }
  | _ => none }
def fnExactSameMembersRow : OpenClaim := { program := "ytkofpnbacgccnaa", sum := "06387902ba8ab5bcd0b35691a1d952a13ef251954707750b12f2fee40d6eba13", func := "loop.example/g00304/laws.FnExactSameMembers", spec := "fnExactSameMembers", apart := false }
def FnExactSameMembersSaid : Prop := fnExactSameMembersRow.holds Try.pinned (OpenSpec.ofChange fnExactSameMembersSpec)

/-- ITS FALSE NEIGHBOUR: 'it returns false'. Refute it at one input. -/
def fnExactSameMembersWrong : ChangeSpec := { name := "fnExactSameMembers", fn := fun _ => fun
  | [d1, d2] => { results := [.lit (.bool false)], args := [d1, d2] }
  | _ => none }
def FnExactSameMembersWrongFalsely : Prop := fnExactSameMembersRow.holds Try.pinned (OpenSpec.ofChange fnExactSameMembersWrong)

/-- 'laws.FnExactSameRules': WHATEVER THE INPUT: true; the input reads as it did. -/
def fnExactSameRulesSpec : ChangeSpec := { name := "fnExactSameRules", fn := fun _ => fun
  | [d1, d2] => { results := [.lit (.bool true)], args := [d1, d2] }
  | _ => none }
def fnExactSameRulesRow : OpenClaim := { program := "ytkofpnbacgccnaa", sum := "06387902ba8ab5bcd0b35691a1d952a13ef251954707750b12f2fee40d6eba13", func := "loop.example/g00304/laws.FnExactSameRules", spec := "fnExactSameRules", apart := false }
def FnExactSameRulesSaid : Prop := fnExactSameRulesRow.holds Try.pinned (OpenSpec.ofChange fnExactSameRulesSpec)

/-- ITS FALSE NEIGHBOUR: 'it returns false'. Refute it at one input. -/
def fnExactSameRulesWrong : ChangeSpec := { name := "fnExactSameRules", fn := fun _ => fun
  | [d1, d2] => { results := [.lit (.bool false)], args := [d1, d2] }
  | _ => none }
def FnExactSameRulesWrongFalsely : Prop := fnExactSameRulesRow.holds Try.pinned (OpenSpec.ofChange fnExactSameRulesWrong)

/-- 'laws.FnExactRuleFault': WHATEVER THE INPUT: true; the input reads as it did. -/
def fnExactRuleFaultSpec : ChangeSpec := { name := "fnExactRuleFault", fn := fun _ => fun
  | [d] => { results := [.lit (.bool true)], args := [d] }
  | _ => none }
def fnExactRuleFaultRow : OpenClaim := { program := "ytkofpnbacgccnaa", sum := "06387902ba8ab5bcd0b35691a1d952a13ef251954707750b12f2fee40d6eba13", func := "loop.example/g00304/laws.FnExactRuleFault", spec := "fnExactRuleFault", unfollowed := true, recurses := true, apart := false }
def FnExactRuleFaultSaid : Prop := fnExactRuleFaultRow.holds Try.pinned (OpenSpec.ofChange fnExactRuleFaultSpec)

/-- ITS FALSE NEIGHBOUR: 'it returns false'. Refute it at one input. -/
def fnExactRuleFaultWrong : ChangeSpec := { name := "fnExactRuleFault", fn := fun _ => fun
  | [d] => { results := [.lit (.bool false)], args := [d] }
  | _ => none }
def FnExactRuleFaultWrongFalsely : Prop := fnExactRuleFaultRow.holds Try.pinned (OpenSpec.ofChange fnExactRuleFaultWrong)

/-- 'laws.FnExactMembersFault': WHATEVER THE INPUT: true; the input reads as it did. -/
def fnExactMembersFaultSpec : ChangeSpec := { name := "fnExactMembersFault", fn := fun _ => fun
  | [d] => { results := [.lit (.bool true)], args := [d] }
  | _ => none }
def fnExactMembersFaultRow : OpenClaim := { program := "ytkofpnbacgccnaa", sum := "06387902ba8ab5bcd0b35691a1d952a13ef251954707750b12f2fee40d6eba13", func := "loop.example/g00304/laws.FnExactMembersFault", spec := "fnExactMembersFault", unfollowed := true, recurses := true, apart := false }
def FnExactMembersFaultSaid : Prop := fnExactMembersFaultRow.holds Try.pinned (OpenSpec.ofChange fnExactMembersFaultSpec)

/-- ITS FALSE NEIGHBOUR: 'it returns false'. Refute it at one input. -/
def fnExactMembersFaultWrong : ChangeSpec := { name := "fnExactMembersFault", fn := fun _ => fun
  | [d] => { results := [.lit (.bool false)], args := [d] }
  | _ => none }
def FnExactMembersFaultWrongFalsely : Prop := fnExactMembersFaultRow.holds Try.pinned (OpenSpec.ofChange fnExactMembersFaultWrong)

/-- 'laws.FnExactBlockFault': WHATEVER THE INPUT: true; the input reads as it did. -/
def fnExactBlockFaultSpec : ChangeSpec := { name := "fnExactBlockFault", fn := fun _ => fun
  | [d] => { results := [.lit (.bool true)], args := [d] }
  | _ => none }
def fnExactBlockFaultRow : OpenClaim := { program := "ytkofpnbacgccnaa", sum := "06387902ba8ab5bcd0b35691a1d952a13ef251954707750b12f2fee40d6eba13", func := "loop.example/g00304/laws.FnExactBlockFault", spec := "fnExactBlockFault", apart := false }
def FnExactBlockFaultSaid : Prop := fnExactBlockFaultRow.holds Try.pinned (OpenSpec.ofChange fnExactBlockFaultSpec)

/-- ITS FALSE NEIGHBOUR: 'it returns false'. Refute it at one input. -/
def fnExactBlockFaultWrong : ChangeSpec := { name := "fnExactBlockFault", fn := fun _ => fun
  | [d] => { results := [.lit (.bool false)], args := [d] }
  | _ => none }
def FnExactBlockFaultWrongFalsely : Prop := fnExactBlockFaultRow.holds Try.pinned (OpenSpec.ofChange fnExactBlockFaultWrong)

/-- 'laws.FnExactTreeFault': WHATEVER THE INPUT: true; the input reads as it did. -/
def fnExactTreeFaultSpec : ChangeSpec := { name := "fnExactTreeFault", fn := fun _ => fun
  | [d] => { results := [.lit (.bool true)], args := [d] }
  | _ => none }
def fnExactTreeFaultRow : OpenClaim := { program := "ytkofpnbacgccnaa", sum := "06387902ba8ab5bcd0b35691a1d952a13ef251954707750b12f2fee40d6eba13", func := "loop.example/g00304/laws.FnExactTreeFault", spec := "fnExactTreeFault", unfollowed := true, recurses := true, apart := false }
def FnExactTreeFaultSaid : Prop := fnExactTreeFaultRow.holds Try.pinned (OpenSpec.ofChange fnExactTreeFaultSpec)

/-- ITS FALSE NEIGHBOUR: 'it returns false'. Refute it at one input. -/
def fnExactTreeFaultWrong : ChangeSpec := { name := "fnExactTreeFault", fn := fun _ => fun
  | [d] => { results := [.lit (.bool false)], args := [d] }
  | _ => none }
def FnExactTreeFaultWrongFalsely : Prop := fnExactTreeFaultRow.holds Try.pinned (OpenSpec.ofChange fnExactTreeFaultWrong)

/-- 'laws.FnExactIsRipe': WHATEVER THE INPUT: true; the input reads as it did. -/
def fnExactIsRipeSpec : ChangeSpec := { name := "fnExactIsRipe", fn := fun _ => fun
  | [d1, d2] => { results := [.lit (.bool true)], args := [d1, d2] }
  | _ => none }
def fnExactIsRipeRow : OpenClaim := { program := "ytkofpnbacgccnaa", sum := "06387902ba8ab5bcd0b35691a1d952a13ef251954707750b12f2fee40d6eba13", func := "loop.example/g00304/laws.FnExactIsRipe", spec := "fnExactIsRipe", apart := false }
def FnExactIsRipeSaid : Prop := fnExactIsRipeRow.holds Try.pinned (OpenSpec.ofChange fnExactIsRipeSpec)

/-- ITS FALSE NEIGHBOUR: 'it returns false'. Refute it at one input. -/
def fnExactIsRipeWrong : ChangeSpec := { name := "fnExactIsRipe", fn := fun _ => fun
  | [d1, d2] => { results := [.lit (.bool false)], args := [d1, d2] }
  | _ => none }
def FnExactIsRipeWrongFalsely : Prop := fnExactIsRipeRow.holds Try.pinned (OpenSpec.ofChange fnExactIsRipeWrong)

/-- 'laws.FnExactLedgerFault': WHATEVER THE INPUT: true; the input reads as it did. -/
def fnExactLedgerFaultSpec : ChangeSpec := { name := "fnExactLedgerFault", fn := fun _ => fun
  | [d] => { results := [.lit (.bool true)], args := [d] }
  | _ => none }
def fnExactLedgerFaultRow : OpenClaim := { program := "ytkofpnbacgccnaa", sum := "06387902ba8ab5bcd0b35691a1d952a13ef251954707750b12f2fee40d6eba13", func := "loop.example/g00304/laws.FnExactLedgerFault", spec := "fnExactLedgerFault", apart := false }
def FnExactLedgerFaultSaid : Prop := fnExactLedgerFaultRow.holds Try.pinned (OpenSpec.ofChange fnExactLedgerFaultSpec)

/-- ITS FALSE NEIGHBOUR: 'it returns false'. Refute it at one input. -/
def fnExactLedgerFaultWrong : ChangeSpec := { name := "fnExactLedgerFault", fn := fun _ => fun
  | [d] => { results := [.lit (.bool false)], args := [d] }
  | _ => none }
def FnExactLedgerFaultWrongFalsely : Prop := fnExactLedgerFaultRow.holds Try.pinned (OpenSpec.ofChange fnExactLedgerFaultWrong)

/-- 'laws.FnExactHasSign': WHATEVER THE INPUT: true; the input reads as it did. -/
def fnExactHasSignSpec : ChangeSpec := { name := "fnExactHasSign", fn := fun _ => fun
  | [d1, d2, d3] => { results := [.lit (.bool true)], args := [d1, d2, d3] }
  | _ => none }
def fnExactHasSignRow : OpenClaim := { program := "ytkofpnbacgccnaa", sum := "06387902ba8ab5bcd0b35691a1d952a13ef251954707750b12f2fee40d6eba13", func := "loop.example/g00304/laws.FnExactHasSign", spec := "fnExactHasSign", apart := false }
def FnExactHasSignSaid : Prop := fnExactHasSignRow.holds Try.pinned (OpenSpec.ofChange fnExactHasSignSpec)

/-- ITS FALSE NEIGHBOUR: 'it returns false'. Refute it at one input. -/
def fnExactHasSignWrong : ChangeSpec := { name := "fnExactHasSign", fn := fun _ => fun
  | [d1, d2, d3] => { results := [.lit (.bool false)], args := [d1, d2, d3] }
  | _ => none }
def FnExactHasSignWrongFalsely : Prop := fnExactHasSignRow.holds Try.pinned (OpenSpec.ofChange fnExactHasSignWrong)

/- THE SECOND FORM. 'bulk': how many values and letters a reading holds, each counted each time it is reached (what is shared counts as often as it is met; a slice's spare places count too). A statement '..UptoSaid' is the law's where the arguments, and the package variables that the reading takes, are together of bulk at most 1048576: NARROWER than '..Said'. Prove '..Said' where nothing that the law and all that it calls make is longer than what came in: it says more and counts as full. Else prove '..UptoSaid'. A law counts once. -/
mutual
def uptoBulk {H : Type} : DataW H → Nat
  | .lit (.string bytes) => bytes.length + 1
  | .lit _ => 1
  | .nil => 1
  | .ptr d => uptoBulk d + 1
  | .slice elems spare => uptoBulkAll elems + uptoBulkAll spare + 1
  | .agg parts => uptoBulkAll parts + 1
  | .iface _ d => uptoBulk d + 1
  | .map entries => uptoBulkEntries entries + 1
  | .held _ => 1
def uptoBulkAll {H : Type} : List (DataW H) → Nat
  | [] => 0
  | d :: r => uptoBulk d + uptoBulkAll r
def uptoBulkEntries {H : Type} : List (Lit × DataW H) → Nat
  | [] => 0
  | x :: r => uptoBulkEntry x + uptoBulkEntries r
def uptoBulkEntry {H : Type} : Lit × DataW H → Nat
  | (.string bytes, d) => bytes.length + uptoBulk d + 1
  | (_, d) => uptoBulk d + 1
 end
def uptoSmall : (H : Type) → List (DataW H) → Bool := fun _ ds => decide (uptoBulkAll ds ≤ 1048576)
def OpenSpec.upto (s : _root_.Go.ChangeSpec) : _root_.Go.OpenSpec := { _root_.Go.OpenSpec.ofChange s with cond := some uptoSmall }

/-- 'laws.FnExactConstants', WHERE WHAT IT READS IS OF BULK AT MOST 1048576: true; the input reads as it did. -/
def fnExactConstantsUptoRow : OpenClaim := { program := "ytkofpnbacgccnaa", sum := "06387902ba8ab5bcd0b35691a1d952a13ef251954707750b12f2fee40d6eba13", func := "loop.example/g00304/laws.FnExactConstants", spec := "fnExactConstants", apart := false, narrowed := true }
def FnExactConstantsUptoSaid : Prop := fnExactConstantsUptoRow.holds Try.pinned (OpenSpec.upto fnExactConstantsSpec)

/-- 'laws.FnExactRewardOf', WHERE WHAT IT READS IS OF BULK AT MOST 1048576: true; the input reads as it did. -/
def fnExactRewardOfUptoRow : OpenClaim := { program := "ytkofpnbacgccnaa", sum := "06387902ba8ab5bcd0b35691a1d952a13ef251954707750b12f2fee40d6eba13", func := "loop.example/g00304/laws.FnExactRewardOf", spec := "fnExactRewardOf", apart := false, narrowed := true }
def FnExactRewardOfUptoSaid : Prop := fnExactRewardOfUptoRow.holds Try.pinned (OpenSpec.upto fnExactRewardOfSpec)

/-- 'laws.FnExactSupplyTo', WHERE WHAT IT READS IS OF BULK AT MOST 1048576: true; the input reads as it did. -/
def fnExactSupplyToUptoRow : OpenClaim := { program := "ytkofpnbacgccnaa", sum := "06387902ba8ab5bcd0b35691a1d952a13ef251954707750b12f2fee40d6eba13", func := "loop.example/g00304/laws.FnExactSupplyTo", spec := "fnExactSupplyTo", apart := false, narrowed := true }
def FnExactSupplyToUptoSaid : Prop := fnExactSupplyToUptoRow.holds Try.pinned (OpenSpec.upto fnExactSupplyToSpec)

/-- 'laws.FnExactSameMembers', WHERE WHAT IT READS IS OF BULK AT MOST 1048576: true; the input reads as it did. -/
def fnExactSameMembersUptoRow : OpenClaim := { program := "ytkofpnbacgccnaa", sum := "06387902ba8ab5bcd0b35691a1d952a13ef251954707750b12f2fee40d6eba13", func := "loop.example/g00304/laws.FnExactSameMembers", spec := "fnExactSameMembers", apart := false, narrowed := true }
def FnExactSameMembersUptoSaid : Prop := fnExactSameMembersUptoRow.holds Try.pinned (OpenSpec.upto fnExactSameMembersSpec)

/-- 'laws.FnExactSameRules', WHERE WHAT IT READS IS OF BULK AT MOST 1048576: true; the input reads as it did. -/
def fnExactSameRulesUptoRow : OpenClaim := { program := "ytkofpnbacgccnaa", sum := "06387902ba8ab5bcd0b35691a1d952a13ef251954707750b12f2fee40d6eba13", func := "loop.example/g00304/laws.FnExactSameRules", spec := "fnExactSameRules", apart := false, narrowed := true }
def FnExactSameRulesUptoSaid : Prop := fnExactSameRulesUptoRow.holds Try.pinned (OpenSpec.upto fnExactSameRulesSpec)

/-- 'laws.FnExactRuleFault', WHERE WHAT IT READS IS OF BULK AT MOST 1048576: true; the input reads as it did. -/
def fnExactRuleFaultUptoRow : OpenClaim := { program := "ytkofpnbacgccnaa", sum := "06387902ba8ab5bcd0b35691a1d952a13ef251954707750b12f2fee40d6eba13", func := "loop.example/g00304/laws.FnExactRuleFault", spec := "fnExactRuleFault", unfollowed := true, recurses := true, apart := false, narrowed := true }
def FnExactRuleFaultUptoSaid : Prop := fnExactRuleFaultUptoRow.holds Try.pinned (OpenSpec.upto fnExactRuleFaultSpec)

/-- 'laws.FnExactMembersFault', WHERE WHAT IT READS IS OF BULK AT MOST 1048576: true; the input reads as it did. -/
def fnExactMembersFaultUptoRow : OpenClaim := { program := "ytkofpnbacgccnaa", sum := "06387902ba8ab5bcd0b35691a1d952a13ef251954707750b12f2fee40d6eba13", func := "loop.example/g00304/laws.FnExactMembersFault", spec := "fnExactMembersFault", unfollowed := true, recurses := true, apart := false, narrowed := true }
def FnExactMembersFaultUptoSaid : Prop := fnExactMembersFaultUptoRow.holds Try.pinned (OpenSpec.upto fnExactMembersFaultSpec)

/-- 'laws.FnExactBlockFault', WHERE WHAT IT READS IS OF BULK AT MOST 1048576: true; the input reads as it did. -/
def fnExactBlockFaultUptoRow : OpenClaim := { program := "ytkofpnbacgccnaa", sum := "06387902ba8ab5bcd0b35691a1d952a13ef251954707750b12f2fee40d6eba13", func := "loop.example/g00304/laws.FnExactBlockFault", spec := "fnExactBlockFault", apart := false, narrowed := true }
def FnExactBlockFaultUptoSaid : Prop := fnExactBlockFaultUptoRow.holds Try.pinned (OpenSpec.upto fnExactBlockFaultSpec)

/-- 'laws.FnExactTreeFault', WHERE WHAT IT READS IS OF BULK AT MOST 1048576: true; the input reads as it did. -/
def fnExactTreeFaultUptoRow : OpenClaim := { program := "ytkofpnbacgccnaa", sum := "06387902ba8ab5bcd0b35691a1d952a13ef251954707750b12f2fee40d6eba13", func := "loop.example/g00304/laws.FnExactTreeFault", spec := "fnExactTreeFault", unfollowed := true, recurses := true, apart := false, narrowed := true }
def FnExactTreeFaultUptoSaid : Prop := fnExactTreeFaultUptoRow.holds Try.pinned (OpenSpec.upto fnExactTreeFaultSpec)

/-- 'laws.FnExactIsRipe', WHERE WHAT IT READS IS OF BULK AT MOST 1048576: true; the input reads as it did. -/
def fnExactIsRipeUptoRow : OpenClaim := { program := "ytkofpnbacgccnaa", sum := "06387902ba8ab5bcd0b35691a1d952a13ef251954707750b12f2fee40d6eba13", func := "loop.example/g00304/laws.FnExactIsRipe", spec := "fnExactIsRipe", apart := false, narrowed := true }
def FnExactIsRipeUptoSaid : Prop := fnExactIsRipeUptoRow.holds Try.pinned (OpenSpec.upto fnExactIsRipeSpec)

/-- 'laws.FnExactLedgerFault', WHERE WHAT IT READS IS OF BULK AT MOST 1048576: true; the input reads as it did. -/
def fnExactLedgerFaultUptoRow : OpenClaim := { program := "ytkofpnbacgccnaa", sum := "06387902ba8ab5bcd0b35691a1d952a13ef251954707750b12f2fee40d6eba13", func := "loop.example/g00304/laws.FnExactLedgerFault", spec := "fnExactLedgerFault", apart := false, narrowed := true }
def FnExactLedgerFaultUptoSaid : Prop := fnExactLedgerFaultUptoRow.holds Try.pinned (OpenSpec.upto fnExactLedgerFaultSpec)

/-- 'laws.FnExactHasSign', WHERE WHAT IT READS IS OF BULK AT MOST 1048576: true; the input reads as it did. -/
def fnExactHasSignUptoRow : OpenClaim := { program := "ytkofpnbacgccnaa", sum := "06387902ba8ab5bcd0b35691a1d952a13ef251954707750b12f2fee40d6eba13", func := "loop.example/g00304/laws.FnExactHasSign", spec := "fnExactHasSign", apart := false, narrowed := true }
def FnExactHasSignUptoSaid : Prop := fnExactHasSignUptoRow.holds Try.pinned (OpenSpec.upto fnExactHasSignSpec)

end Rows
end Go.Proofs.Ytkofpnbacgccnaa
