/- The law's arguments, opened. Conditions: as each theorem states them. -/
import Derived.Test.YtbbcabpnkdilgaaFnMembersZkTy
import Derived.Test.YtbbcabpnkdilgaaZkOpen
namespace Go.Proofs.Ytbbcabpnkdilgaa.Zk
open Go Go.RowKit
set_option linter.unusedVariables false
abbrev okRef (x : Ref) : Prop := (iOk .i64) x.fTx ∧ (iOk .i64) x.fAt
abbrev okMember (x : Member) : Prop := (iOk .i64) x.fKey ∧ okRef x.fRef
abbrev okRule (x : Rule) : Prop := (Lok (iOk .i64)) x.fKeys ∧ (iOk .i64) x.fNeed ∧ (iOk .i64) x.fAfter
abbrev okOut (x : Out) : Prop := (iOk .i64) x.fValue ∧ okRule x.fRule
abbrev okTx (x : Tx) : Prop := (iOk .i64) x.fKind ∧ (iOk .i64) x.fMember ∧ (Lok okRef) x.fIns ∧ (Lok okOut) x.fOuts
abbrev okl1Src (x : l1Src) : Prop := (Lok (iOk .u8)) x.fCode ∧ (iOk .i64) x.fAt
abbrev okMembersResult (x : MembersResult) : Prop := (iOk .i64) x.fCode ∧ (Lok okMember) x.fMembers
abbrev okIntsResult (x : IntsResult) : Prop := (iOk .i64) x.fCode ∧ (Lok (iOk .i64)) x.fList
theorem cells5 : Try.prog.cellsOf 5 = 1 := by kernel_rfl
theorem cells22 : Try.prog.cellsOf 22 = 1 := by kernel_rfl
theorem opn5 {H : Type} {enc : TypeId × Value → H} {w : World} {base : Nat} {spare : Nat → Bool} {held : Bool} {fuel : Nat} {cs : List Value} {x : DataW H × List MemPlace} (h : DataW.trod enc Try.prog w base spare held fuel 5 cs = some x) : ∃ y : Int, cs = [.int .u8 y] ∧ iOk .u8 y := by
  obtain ⟨n, h1, _, h2⟩ := DataW.trod_int Try.underlying5 h
  exact ⟨n, h1, h2⟩
theorem opn22 {H : Type} {enc : TypeId × Value → H} {w : World} {base : Nat} {spare : Nat → Bool} {held : Bool} {fuel : Nat} {cs : List Value} {x : DataW H × List MemPlace} (h : DataW.trod enc Try.prog w base spare held fuel 22 cs = some x) : ∃ (ys : List Int) (v : Value), cs = [v] ∧ RdS kU8 w v ys ∧ Lok (iOk .u8) ys :=
  open_rds (d := kU8) (ok := (iOk .u8)) Try.underlying22 cells5 rfl (fun h => by obtain ⟨y, e, k⟩ := opn5 h; exact ⟨y, e, k⟩) h
theorem laidOut : laidOutB Try.prog = true := by kernel_rfl
end Go.Proofs.Ytbbcabpnkdilgaa.Zk
