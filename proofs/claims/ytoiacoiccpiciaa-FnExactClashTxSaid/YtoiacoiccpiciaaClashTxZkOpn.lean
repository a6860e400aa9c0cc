/- The law's arguments, opened. Conditions: as each theorem states them. -/
import Derived.Test.YtoiacoiccpiciaaClashTxZkTy
import Derived.Test.YtoiacoiccpiciaaZkOpen
namespace Go.Proofs.Ytoiacoiccpiciaa.Zk
open Go Go.RowKit
set_option linter.unusedVariables false
abbrev okRef (x : Ref) : Prop := (iOk .i64) x.fTx ∧ (iOk .i64) x.fAt
abbrev okRule (x : Rule) : Prop := (Lok (iOk .i64)) x.fKeys ∧ (iOk .i64) x.fNeed ∧ (iOk .i64) x.fAfter
abbrev okOut (x : Out) : Prop := (iOk .i64) x.fValue ∧ okRule x.fRule
abbrev okTx (x : Tx) : Prop := (iOk .i64) x.fKind ∧ (iOk .i64) x.fMember ∧ (Lok okRef) x.fIns ∧ (Lok okOut) x.fOuts
theorem cells2 : Try.prog.cellsOf 2 = 1 := by kernel_rfl
theorem cells28 : Try.prog.cellsOf 28 = 1 := by kernel_rfl
theorem cells29 : Try.prog.cellsOf 29 = 1 := by kernel_rfl
theorem cells31 : Try.prog.cellsOf 31 = 4 := by kernel_rfl
theorem cells74 : Try.prog.cellsOf 74 = 1 := by kernel_rfl
theorem cells92 : Try.prog.cellsOf 92 = 2 := by kernel_rfl
theorem cells94 : Try.prog.cellsOf 94 = 3 := by kernel_rfl
theorem cells96 : Try.prog.cellsOf 96 = 4 := by kernel_rfl
theorem opn2 {H : Type} {enc : TypeId × Value → H} {w : World} {base : Nat} {spare : Nat → Bool} {held : Bool} {fuel : Nat} {cs : List Value} {x : DataW H × List MemPlace} (h : DataW.trod enc Try.prog w base spare held fuel 2 cs = some x) : ∃ y : Int, cs = [.int .i64 y] ∧ iOk .i64 y := by
  obtain ⟨n, h1, _, h2⟩ := DataW.trod_int Try.underlying2 h
  exact ⟨n, h1, h2⟩
theorem opn92 {H : Type} {enc : TypeId × Value → H} {w : World} {base : Nat} {spare : Nat → Bool} {held : Bool} {fuel : Nat} {cs : List Value} {x : DataW H × List MemPlace} (h : DataW.trod enc Try.prog w base spare held fuel 92 cs = some x) : ∃ (y : Ref), cs = [.int .i64 y.fTx, .int .i64 y.fAt] ∧ okRef y := by
  obtain ⟨hl, hf⟩ := trod_fields Try.underlying92 h
  have p0 : cs.take 0 = [] := List.take_zero
  obtain ⟨n0, x0, h0⟩ := hf 0 _ rfl
  obtain ⟨y0, e0, k0⟩ := opn2 h0
  have p1 := seg p0 ((congrArg (fun m => (cs.drop 0).take m) cells2.symm).trans e0)
  obtain ⟨n1, x1, h1⟩ := hf 1 _ rfl
  obtain ⟨y1, e1, k1⟩ := opn2 h1
  have p2 := seg p1 ((congrArg (fun m => (cs.drop 1).take m) cells2.symm).trans e1)
  exact ⟨⟨y0, y1⟩, (seg_all p2 (hl.trans cells92)), ⟨k0, k1⟩⟩
theorem opn28 {H : Type} {enc : TypeId × Value → H} {w : World} {base : Nat} {spare : Nat → Bool} {held : Bool} {fuel : Nat} {cs : List Value} {x : DataW H × List MemPlace} (h : DataW.trod enc Try.prog w base spare held fuel 28 cs = some x) : ∃ (ys : List Ref) (v : Value), cs = [v] ∧ RdS kRef w v ys ∧ Lok okRef ys :=
  open_rds (d := kRef) (ok := okRef) Try.underlying28 cells92 rfl (fun h => by obtain ⟨y, e, k⟩ := opn92 h; exact ⟨y, e, k⟩) h
theorem opn74 {H : Type} {enc : TypeId × Value → H} {w : World} {base : Nat} {spare : Nat → Bool} {held : Bool} {fuel : Nat} {cs : List Value} {x : DataW H × List MemPlace} (h : DataW.trod enc Try.prog w base spare held fuel 74 cs = some x) : ∃ (ys : List Int) (v : Value), cs = [v] ∧ RdS kInt w v ys ∧ Lok (iOk .i64) ys :=
  open_rds (d := kInt) (ok := (iOk .i64)) Try.underlying74 cells2 rfl (fun h => by obtain ⟨y, e, k⟩ := opn2 h; exact ⟨y, e, k⟩) h
theorem opn94 {H : Type} {enc : TypeId × Value → H} {w : World} {base : Nat} {spare : Nat → Bool} {held : Bool} {fuel : Nat} {cs : List Value} {x : DataW H × List MemPlace} (h : DataW.trod enc Try.prog w base spare held fuel 94 cs = some x) : ∃ (y : Rule) (v0_0 : Value), cs = [v0_0, .int .i64 y.fNeed, .int .i64 y.fAfter] ∧ RdS kInt w v0_0 (y.fKeys) ∧ okRule y := by
  obtain ⟨hl, hf⟩ := trod_fields Try.underlying94 h
  have p0 : cs.take 0 = [] := List.take_zero
  obtain ⟨n0, x0, h0⟩ := hf 0 _ rfl
  obtain ⟨y0, v0_0, e0, r0_0, k0⟩ := opn74 h0
  have p1 := seg p0 ((congrArg (fun m => (cs.drop 0).take m) cells74.symm).trans e0)
  obtain ⟨n1, x1, h1⟩ := hf 1 _ rfl
  obtain ⟨y1, e1, k1⟩ := opn2 h1
  have p2 := seg p1 ((congrArg (fun m => (cs.drop 1).take m) cells2.symm).trans e1)
  obtain ⟨n2, x2, h2⟩ := hf 2 _ rfl
  obtain ⟨y2, e2, k2⟩ := opn2 h2
  have p3 := seg p2 ((congrArg (fun m => (cs.drop 2).take m) cells2.symm).trans e2)
  exact ⟨⟨y0, y1, y2⟩, v0_0, (seg_all p3 (hl.trans cells94)), r0_0, ⟨k0, k1, k2⟩⟩
theorem opn96 {H : Type} {enc : TypeId × Value → H} {w : World} {base : Nat} {spare : Nat → Bool} {held : Bool} {fuel : Nat} {cs : List Value} {x : DataW H × List MemPlace} (h : DataW.trod enc Try.prog w base spare held fuel 96 cs = some x) : ∃ (y : Out) (v1_0 : Value), cs = [.int .i64 y.fValue, v1_0, .int .i64 y.fRule.fNeed, .int .i64 y.fRule.fAfter] ∧ RdS kInt w v1_0 (y.fRule.fKeys) ∧ okOut y := by
  obtain ⟨hl, hf⟩ := trod_fields Try.underlying96 h
  have p0 : cs.take 0 = [] := List.take_zero
  obtain ⟨n0, x0, h0⟩ := hf 0 _ rfl
  obtain ⟨y0, e0, k0⟩ := opn2 h0
  have p1 := seg p0 ((congrArg (fun m => (cs.drop 0).take m) cells2.symm).trans e0)
  obtain ⟨n1, x1, h1⟩ := hf 1 _ rfl
  obtain ⟨y1, v1_0, e1, r1_0, k1⟩ := opn94 h1
  have p2 := seg p1 ((congrArg (fun m => (cs.drop 1).take m) cells94.symm).trans e1)
  exact ⟨⟨y0, y1⟩, v1_0, (seg_all p2 (hl.trans cells96)), r1_0, ⟨k0, k1⟩⟩
theorem opn29 {H : Type} {enc : TypeId × Value → H} {w : World} {base : Nat} {spare : Nat → Bool} {held : Bool} {fuel : Nat} {cs : List Value} {x : DataW H × List MemPlace} (h : DataW.trod enc Try.prog w base spare held fuel 29 cs = some x) : ∃ (ys : List Out) (v : Value), cs = [v] ∧ RdS kOut w v ys ∧ Lok okOut ys :=
  open_rds (d := kOut) (ok := okOut) Try.underlying29 cells96 rfl (fun h => by obtain ⟨y, v0, e, r0, k⟩ := opn96 h; exact ⟨y, ⟨v0, e, r0⟩, k⟩) h
theorem opn31 {H : Type} {enc : TypeId × Value → H} {w : World} {base : Nat} {spare : Nat → Bool} {held : Bool} {fuel : Nat} {cs : List Value} {x : DataW H × List MemPlace} (h : DataW.trod enc Try.prog w base spare held fuel 31 cs = some x) : ∃ (y : Tx) (v2_0 : Value) (v3_0 : Value), cs = [.int .i64 y.fKind, .int .i64 y.fMember, v2_0, v3_0] ∧ RdS kRef w v2_0 (y.fIns) ∧ RdS kOut w v3_0 (y.fOuts) ∧ okTx y := by
  obtain ⟨hl, hf⟩ := trod_fields Try.underlying31 h
  have p0 : cs.take 0 = [] := List.take_zero
  obtain ⟨n0, x0, h0⟩ := hf 0 _ rfl
  obtain ⟨y0, e0, k0⟩ := opn2 h0
  have p1 := seg p0 ((congrArg (fun m => (cs.drop 0).take m) cells2.symm).trans e0)
  obtain ⟨n1, x1, h1⟩ := hf 1 _ rfl
  obtain ⟨y1, e1, k1⟩ := opn2 h1
  have p2 := seg p1 ((congrArg (fun m => (cs.drop 1).take m) cells2.symm).trans e1)
  obtain ⟨n2, x2, h2⟩ := hf 2 _ rfl
  obtain ⟨y2, v2_0, e2, r2_0, k2⟩ := opn28 h2
  have p3 := seg p2 ((congrArg (fun m => (cs.drop 2).take m) cells28.symm).trans e2)
  obtain ⟨n3, x3, h3⟩ := hf 3 _ rfl
  obtain ⟨y3, v3_0, e3, r3_0, k3⟩ := opn29 h3
  have p4 := seg p3 ((congrArg (fun m => (cs.drop 3).take m) cells29.symm).trans e3)
  exact ⟨⟨y0, y1, y2, y3⟩, v2_0, v3_0, (seg_all p4 (hl.trans cells31)), r2_0, r3_0, ⟨k0, k1, k2, k3⟩⟩
theorem laidOut : laidOutB Try.prog = true := by kernel_rfl
end Go.Proofs.Ytoiacoiccpiciaa.Zk
