/- The law's arguments, opened. Conditions: as each theorem states them. -/
import Derived.Test.YtoiacoiccpiciaaMemberOfZkTy
import Derived.Test.YtoiacoiccpiciaaZkOpen
namespace Go.Proofs.Ytoiacoiccpiciaa.Zk
open Go Go.RowKit
set_option linter.unusedVariables false
abbrev okRef (x : Ref) : Prop := (iOk .i64) x.fTx ∧ (iOk .i64) x.fAt
abbrev okMember (x : Member) : Prop := (iOk .i64) x.fKey ∧ okRef x.fRef
abbrev okMembersResult (x : MembersResult) : Prop := (iOk .i64) x.fCode ∧ (Lok okMember) x.fMembers
theorem cells2 : Try.prog.cellsOf 2 = 1 := by kernel_rfl
theorem cells44 : Try.prog.cellsOf 44 = 1 := by kernel_rfl
theorem cells92 : Try.prog.cellsOf 92 = 2 := by kernel_rfl
theorem cells147 : Try.prog.cellsOf 147 = 3 := by kernel_rfl
theorem opn2 {H : Type} {enc : TypeId × Value → H} {w : World} {base : Nat} {spare : Nat → Bool} {held : Bool} {fuel : Nat} {cs : List Value} {x : DataW H × List MemPlace} (h : DataW.trod enc Try.prog w base spare held fuel 2 cs = some x) : ∃ y : Int, cs = [.int .i64 y] ∧ iOk .i64 y := by
  obtain ⟨n, h1, _, h2⟩ := DataW.trod_int Try.underlying2 h
  exact ⟨n, h1, h2⟩
theorem opn92 {H : Type} {enc : TypeId × Value → H} {w : World} {base : Nat} {spare : Nat → Bool} {held : Bool} {fuel : Nat} {cs : List Value} {x : DataW H × List MemPlace} (h : DataW.trod enc Try.prog w base spare held fuel 92 cs = some x) : ∃ (y : Ref), cs = [.int .i64 y.fTx, .int .i64 y.fAt] ∧ okRef y := by
  obtain ⟨hl, hf⟩ := trod_fields Try.underlying92 h
  have p0 : cs.take 0 = [] := List.take_zero
  obtain ⟨n0, x0, h0⟩ := hf 0 _ rfl
  obtain ⟨y0, e0, k0⟩ := opn2 h0
  have p1 := seg p0 ((congrArg (fun m => (cs.drop 0).take m) cells2.symm).trans e0)
  obtain ⟨n1, x1, h1⟩ := hf 1 _ rfl
  obtain ⟨y1, e1, k1⟩ := opn2 h1
  have p2 := seg p1 ((congrArg (fun m => (cs.drop 1).take m) cells2.symm).trans e1)
  exact ⟨⟨y0, y1⟩, (seg_all p2 (hl.trans cells92)), ⟨k0, k1⟩⟩
theorem opn147 {H : Type} {enc : TypeId × Value → H} {w : World} {base : Nat} {spare : Nat → Bool} {held : Bool} {fuel : Nat} {cs : List Value} {x : DataW H × List MemPlace} (h : DataW.trod enc Try.prog w base spare held fuel 147 cs = some x) : ∃ (y : Member), cs = [.int .i64 y.fKey, .int .i64 y.fRef.fTx, .int .i64 y.fRef.fAt] ∧ okMember y := by
  obtain ⟨hl, hf⟩ := trod_fields Try.underlying147 h
  have p0 : cs.take 0 = [] := List.take_zero
  obtain ⟨n0, x0, h0⟩ := hf 0 _ rfl
  obtain ⟨y0, e0, k0⟩ := opn2 h0
  have p1 := seg p0 ((congrArg (fun m => (cs.drop 0).take m) cells2.symm).trans e0)
  obtain ⟨n1, x1, h1⟩ := hf 1 _ rfl
  obtain ⟨y1, e1, k1⟩ := opn92 h1
  have p2 := seg p1 ((congrArg (fun m => (cs.drop 1).take m) cells92.symm).trans e1)
  exact ⟨⟨y0, y1⟩, (seg_all p2 (hl.trans cells147)), ⟨k0, k1⟩⟩
theorem opn44 {H : Type} {enc : TypeId × Value → H} {w : World} {base : Nat} {spare : Nat → Bool} {held : Bool} {fuel : Nat} {cs : List Value} {x : DataW H × List MemPlace} (h : DataW.trod enc Try.prog w base spare held fuel 44 cs = some x) : ∃ (ys : List Member) (v : Value), cs = [v] ∧ RdS kMember w v ys ∧ Lok okMember ys :=
  open_rds (d := kMember) (ok := okMember) Try.underlying44 cells147 rfl (fun h => by obtain ⟨y, e, k⟩ := opn147 h; exact ⟨y, e, k⟩) h
theorem laidOut : laidOutB Try.prog = true := by kernel_rfl
end Go.Proofs.Ytoiacoiccpiciaa.Zk
