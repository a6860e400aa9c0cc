/- The law's arguments, opened. Conditions: as each theorem states them. -/
import Derived.Test.YtcpacdbdehphkaaDoorTxTextZkTy
import Derived.Test.YtcpacdbdehphkaaDoorZkOpen
namespace Go.Proofs.YtcpacdbdehphkaaDoor.Zk
open Go Go.RowKit
set_option linter.unusedVariables false
abbrev okRef (x : Ref) : Prop := (iOk .i64) x.fTx ∧ (iOk .i64) x.fAt
abbrev okRule (x : Rule) : Prop := (Lok (iOk .i64)) x.fKeys ∧ (iOk .i64) x.fNeed ∧ (iOk .i64) x.fAfter
abbrev okOut (x : Out) : Prop := (iOk .i64) x.fValue ∧ okRule x.fRule
abbrev okTx (x : Tx) : Prop := (iOk .i64) x.fKind ∧ (iOk .i64) x.fMember ∧ (Lok okRef) x.fIns ∧ (Lok okOut) x.fOuts
abbrev okTextResult (x : TextResult) : Prop := (iOk .i64) x.fCode ∧ sOk x.fText
theorem cells2 : Tryd.prog.cellsOf 2 = 1 := by kernel_rfl
theorem cells22 : Tryd.prog.cellsOf 22 = 1 := by kernel_rfl
theorem cells23 : Tryd.prog.cellsOf 23 = 1 := by kernel_rfl
theorem cells25 : Tryd.prog.cellsOf 25 = 4 := by kernel_rfl
theorem cells38 : Tryd.prog.cellsOf 38 = 1 := by kernel_rfl
theorem cells96 : Tryd.prog.cellsOf 96 = 3 := by kernel_rfl
theorem cells98 : Tryd.prog.cellsOf 98 = 4 := by kernel_rfl
theorem cells111 : Tryd.prog.cellsOf 111 = 2 := by kernel_rfl
theorem opn2 {H : Type} {enc : TypeId × Value → H} {w : World} {base : Nat} {spare : Nat → Bool} {held : Bool} {fuel : Nat} {cs : List Value} {x : DataW H × List MemPlace} (h : DataW.trod enc Tryd.prog w base spare held fuel 2 cs = some x) : ∃ y : Int, cs = [.int .i64 y] ∧ iOk .i64 y := by
  obtain ⟨n, h1, _, h2⟩ := DataW.trod_int Tryd.underlying2 h
  exact ⟨n, h1, h2⟩
theorem opn111 {H : Type} {enc : TypeId × Value → H} {w : World} {base : Nat} {spare : Nat → Bool} {held : Bool} {fuel : Nat} {cs : List Value} {x : DataW H × List MemPlace} (h : DataW.trod enc Tryd.prog w base spare held fuel 111 cs = some x) : ∃ (y : Ref), cs = [.int .i64 y.fTx, .int .i64 y.fAt] ∧ okRef y := by
  obtain ⟨hl, hf⟩ := trod_fields Tryd.underlying111 h
  have p0 : cs.take 0 = [] := List.take_zero
  obtain ⟨n0, x0, h0⟩ := hf 0 _ rfl
  obtain ⟨y0, e0, k0⟩ := opn2 h0
  have p1 := seg p0 ((congrArg (fun m => (cs.drop 0).take m) cells2.symm).trans e0)
  obtain ⟨n1, x1, h1⟩ := hf 1 _ rfl
  obtain ⟨y1, e1, k1⟩ := opn2 h1
  have p2 := seg p1 ((congrArg (fun m => (cs.drop 1).take m) cells2.symm).trans e1)
  exact ⟨⟨y0, y1⟩, (seg_all p2 (hl.trans cells111)), ⟨k0, k1⟩⟩
theorem opn22 {H : Type} {enc : TypeId × Value → H} {w : World} {base : Nat} {spare : Nat → Bool} {held : Bool} {fuel : Nat} {cs : List Value} {x : DataW H × List MemPlace} (h : DataW.trod enc Tryd.prog w base spare held fuel 22 cs = some x) : ∃ (ys : List Ref) (v : Value), cs = [v] ∧ RdS kRef w v ys ∧ Lok okRef ys :=
  open_rds (d := kRef) (ok := okRef) Tryd.underlying22 cells111 rfl (fun h => by obtain ⟨y, e, k⟩ := opn111 h; exact ⟨y, e, k⟩) h
theorem opn38 {H : Type} {enc : TypeId × Value → H} {w : World} {base : Nat} {spare : Nat → Bool} {held : Bool} {fuel : Nat} {cs : List Value} {x : DataW H × List MemPlace} (h : DataW.trod enc Tryd.prog w base spare held fuel 38 cs = some x) : ∃ (ys : List Int) (v : Value), cs = [v] ∧ RdS kInt w v ys ∧ Lok (iOk .i64) ys :=
  open_rds (d := kInt) (ok := (iOk .i64)) Tryd.underlying38 cells2 rfl (fun h => by obtain ⟨y, e, k⟩ := opn2 h; exact ⟨y, e, k⟩) h
theorem opn96 {H : Type} {enc : TypeId × Value → H} {w : World} {base : Nat} {spare : Nat → Bool} {held : Bool} {fuel : Nat} {cs : List Value} {x : DataW H × List MemPlace} (h : DataW.trod enc Tryd.prog w base spare held fuel 96 cs = some x) : ∃ (y : Rule) (v0_0 : Value), cs = [v0_0, .int .i64 y.fNeed, .int .i64 y.fAfter] ∧ RdS kInt w v0_0 (y.fKeys) ∧ okRule y := by
  obtain ⟨hl, hf⟩ := trod_fields Tryd.underlying96 h
  have p0 : cs.take 0 = [] := List.take_zero
  obtain ⟨n0, x0, h0⟩ := hf 0 _ rfl
  obtain ⟨y0, v0_0, e0, r0_0, k0⟩ := opn38 h0
  have p1 := seg p0 ((congrArg (fun m => (cs.drop 0).take m) cells38.symm).trans e0)
  obtain ⟨n1, x1, h1⟩ := hf 1 _ rfl
  obtain ⟨y1, e1, k1⟩ := opn2 h1
  have p2 := seg p1 ((congrArg (fun m => (cs.drop 1).take m) cells2.symm).trans e1)
  obtain ⟨n2, x2, h2⟩ := hf 2 _ rfl
  obtain ⟨y2, e2, k2⟩ := opn2 h2
  have p3 := seg p2 ((congrArg (fun m => (cs.drop 2).take m) cells2.symm).trans e2)
  exact ⟨⟨y0, y1, y2⟩, v0_0, (seg_all p3 (hl.trans cells96)), r0_0, ⟨k0, k1, k2⟩⟩
theorem opn98 {H : Type} {enc : TypeId × Value → H} {w : World} {base : Nat} {spare : Nat → Bool} {held : Bool} {fuel : Nat} {cs : List Value} {x : DataW H × List MemPlace} (h : DataW.trod enc Tryd.prog w base spare held fuel 98 cs = some x) : ∃ (y : Out) (v1_0 : Value), cs = [.int .i64 y.fValue, v1_0, .int .i64 y.fRule.fNeed, .int .i64 y.fRule.fAfter] ∧ RdS kInt w v1_0 (y.fRule.fKeys) ∧ okOut y := by
  obtain ⟨hl, hf⟩ := trod_fields Tryd.underlying98 h
  have p0 : cs.take 0 = [] := List.take_zero
  obtain ⟨n0, x0, h0⟩ := hf 0 _ rfl
  obtain ⟨y0, e0, k0⟩ := opn2 h0
  have p1 := seg p0 ((congrArg (fun m => (cs.drop 0).take m) cells2.symm).trans e0)
  obtain ⟨n1, x1, h1⟩ := hf 1 _ rfl
  obtain ⟨y1, v1_0, e1, r1_0, k1⟩ := opn96 h1
  have p2 := seg p1 ((congrArg (fun m => (cs.drop 1).take m) cells96.symm).trans e1)
  exact ⟨⟨y0, y1⟩, v1_0, (seg_all p2 (hl.trans cells98)), r1_0, ⟨k0, k1⟩⟩
theorem opn23 {H : Type} {enc : TypeId × Value → H} {w : World} {base : Nat} {spare : Nat → Bool} {held : Bool} {fuel : Nat} {cs : List Value} {x : DataW H × List MemPlace} (h : DataW.trod enc Tryd.prog w base spare held fuel 23 cs = some x) : ∃ (ys : List Out) (v : Value), cs = [v] ∧ RdS kOut w v ys ∧ Lok okOut ys :=
  open_rds (d := kOut) (ok := okOut) Tryd.underlying23 cells98 rfl (fun h => by obtain ⟨y, v0, e, r0, k⟩ := opn98 h; exact ⟨y, ⟨v0, e, r0⟩, k⟩) h
theorem opn25 {H : Type} {enc : TypeId × Value → H} {w : World} {base : Nat} {spare : Nat → Bool} {held : Bool} {fuel : Nat} {cs : List Value} {x : DataW H × List MemPlace} (h : DataW.trod enc Tryd.prog w base spare held fuel 25 cs = some x) : ∃ (y : Tx) (v2_0 : Value) (v3_0 : Value), cs = [.int .i64 y.fKind, .int .i64 y.fMember, v2_0, v3_0] ∧ RdS kRef w v2_0 (y.fIns) ∧ RdS kOut w v3_0 (y.fOuts) ∧ okTx y := by
  obtain ⟨hl, hf⟩ := trod_fields Tryd.underlying25 h
  have p0 : cs.take 0 = [] := List.take_zero
  obtain ⟨n0, x0, h0⟩ := hf 0 _ rfl
  obtain ⟨y0, e0, k0⟩ := opn2 h0
  have p1 := seg p0 ((congrArg (fun m => (cs.drop 0).take m) cells2.symm).trans e0)
  obtain ⟨n1, x1, h1⟩ := hf 1 _ rfl
  obtain ⟨y1, e1, k1⟩ := opn2 h1
  have p2 := seg p1 ((congrArg (fun m => (cs.drop 1).take m) cells2.symm).trans e1)
  obtain ⟨n2, x2, h2⟩ := hf 2 _ rfl
  obtain ⟨y2, v2_0, e2, r2_0, k2⟩ := opn22 h2
  have p3 := seg p2 ((congrArg (fun m => (cs.drop 2).take m) cells22.symm).trans e2)
  obtain ⟨n3, x3, h3⟩ := hf 3 _ rfl
  obtain ⟨y3, v3_0, e3, r3_0, k3⟩ := opn23 h3
  have p4 := seg p3 ((congrArg (fun m => (cs.drop 3).take m) cells23.symm).trans e3)
  exact ⟨⟨y0, y1, y2, y3⟩, v2_0, v3_0, (seg_all p4 (hl.trans cells25)), r2_0, r3_0, ⟨k0, k1, k2, k3⟩⟩
theorem laidOut : laidOutB Tryd.prog = true := by kernel_rfl
end Go.Proofs.YtcpacdbdehphkaaDoor.Zk
