/- The law's arguments, opened. Conditions: as each theorem states them. -/
import Derived.Test.YtpfaihnmonfkhaaGreatDoorCheckTxZkTy
import Derived.Test.YtpfaihnmonfkhaaGreatDoorZkOpen
namespace Go.Proofs.YtpfaihnmonfkhaaGreatDoor.Zk
open Go Go.RowKit
set_option linter.unusedVariables false
abbrev okSign (x : Sign) : Prop := (iOk .i64) x.fKey ∧ (iOk .i64) x.fId
abbrev okLedger (x : Ledger) : Prop := (Lok sOk) x.fTexts ∧ (Lok okSign) x.fSigns
abbrev okRef (x : Ref) : Prop := (iOk .i64) x.fTx ∧ (iOk .i64) x.fAt
abbrev okRule (x : Rule) : Prop := (Lok (iOk .i64)) x.fKeys ∧ (iOk .i64) x.fNeed ∧ (iOk .i64) x.fAfter
abbrev okOut (x : Out) : Prop := (iOk .i64) x.fValue ∧ okRule x.fRule
abbrev okCoin (x : Coin) : Prop := okRef x.fRef ∧ okOut x.fOut ∧ (iOk .i64) x.fHeight ∧ bOk x.fMined
abbrev okTx (x : Tx) : Prop := (iOk .i64) x.fKind ∧ (iOk .i64) x.fMember ∧ (Lok okRef) x.fIns ∧ (Lok okOut) x.fOuts
theorem cells2 : Tryz.prog.cellsOf 2 = 1 := by kernel_rfl
theorem cells4 : Tryz.prog.cellsOf 4 = 1 := by kernel_rfl
theorem cells9 : Tryz.prog.cellsOf 9 = 1 := by kernel_rfl
theorem cells22 : Tryz.prog.cellsOf 22 = 1 := by kernel_rfl
theorem cells23 : Tryz.prog.cellsOf 23 = 1 := by kernel_rfl
theorem cells25 : Tryz.prog.cellsOf 25 = 2 := by kernel_rfl
theorem cells27 : Tryz.prog.cellsOf 27 = 1 := by kernel_rfl
theorem cells28 : Tryz.prog.cellsOf 28 = 1 := by kernel_rfl
theorem cells30 : Tryz.prog.cellsOf 30 = 4 := by kernel_rfl
theorem cells57 : Tryz.prog.cellsOf 57 = 2 := by kernel_rfl
theorem cells58 : Tryz.prog.cellsOf 58 = 1 := by kernel_rfl
theorem cells60 : Tryz.prog.cellsOf 60 = 3 := by kernel_rfl
theorem cells62 : Tryz.prog.cellsOf 62 = 4 := by kernel_rfl
theorem cells64 : Tryz.prog.cellsOf 64 = 8 := by kernel_rfl
theorem cells117 : Tryz.prog.cellsOf 117 = 2 := by kernel_rfl
theorem opn2 {H : Type} {enc : TypeId × Value → H} {w : World} {base : Nat} {spare : Nat → Bool} {held : Bool} {fuel : Nat} {cs : List Value} {x : DataW H × List MemPlace} (h : DataW.trod enc Tryz.prog w base spare held fuel 2 cs = some x) : ∃ y : Int, cs = [.int .i64 y] ∧ iOk .i64 y := by
  obtain ⟨n, h1, _, h2⟩ := DataW.trod_int Tryz.underlying2 h
  exact ⟨n, h1, h2⟩
theorem opn9 {H : Type} {enc : TypeId × Value → H} {w : World} {base : Nat} {spare : Nat → Bool} {held : Bool} {fuel : Nat} {cs : List Value} {x : DataW H × List MemPlace} (h : DataW.trod enc Tryz.prog w base spare held fuel 9 cs = some x) : ∃ y : ByteArray, cs = [.string y] ∧ sOk y := by
  obtain ⟨n, h1, _, h2⟩ := DataW.trod_string Tryz.underlying9 h
  exact ⟨n, h1, h2⟩
theorem opn22 {H : Type} {enc : TypeId × Value → H} {w : World} {base : Nat} {spare : Nat → Bool} {held : Bool} {fuel : Nat} {cs : List Value} {x : DataW H × List MemPlace} (h : DataW.trod enc Tryz.prog w base spare held fuel 22 cs = some x) : ∃ (ys : List ByteArray) (v : Value), cs = [v] ∧ RdS kStr w v ys ∧ Lok sOk ys :=
  open_rds (d := kStr) (ok := sOk) Tryz.underlying22 cells9 rfl (fun h => by obtain ⟨y, e, k⟩ := opn9 h; exact ⟨y, e, k⟩) h
theorem opn117 {H : Type} {enc : TypeId × Value → H} {w : World} {base : Nat} {spare : Nat → Bool} {held : Bool} {fuel : Nat} {cs : List Value} {x : DataW H × List MemPlace} (h : DataW.trod enc Tryz.prog w base spare held fuel 117 cs = some x) : ∃ (y : Sign), cs = [.int .i64 y.fKey, .int .i64 y.fId] ∧ okSign y := by
  obtain ⟨hl, hf⟩ := trod_fields Tryz.underlying117 h
  have p0 : cs.take 0 = [] := List.take_zero
  obtain ⟨n0, x0, h0⟩ := hf 0 _ rfl
  obtain ⟨y0, e0, k0⟩ := opn2 h0
  have p1 := seg p0 ((congrArg (fun m => (cs.drop 0).take m) cells2.symm).trans e0)
  obtain ⟨n1, x1, h1⟩ := hf 1 _ rfl
  obtain ⟨y1, e1, k1⟩ := opn2 h1
  have p2 := seg p1 ((congrArg (fun m => (cs.drop 1).take m) cells2.symm).trans e1)
  exact ⟨⟨y0, y1⟩, (seg_all p2 (hl.trans cells117)), ⟨k0, k1⟩⟩
theorem opn23 {H : Type} {enc : TypeId × Value → H} {w : World} {base : Nat} {spare : Nat → Bool} {held : Bool} {fuel : Nat} {cs : List Value} {x : DataW H × List MemPlace} (h : DataW.trod enc Tryz.prog w base spare held fuel 23 cs = some x) : ∃ (ys : List Sign) (v : Value), cs = [v] ∧ RdS kSign w v ys ∧ Lok okSign ys :=
  open_rds (d := kSign) (ok := okSign) Tryz.underlying23 cells117 rfl (fun h => by obtain ⟨y, e, k⟩ := opn117 h; exact ⟨y, e, k⟩) h
theorem opn25 {H : Type} {enc : TypeId × Value → H} {w : World} {base : Nat} {spare : Nat → Bool} {held : Bool} {fuel : Nat} {cs : List Value} {x : DataW H × List MemPlace} (h : DataW.trod enc Tryz.prog w base spare held fuel 25 cs = some x) : ∃ (y : Ledger) (v0_0 : Value) (v1_0 : Value), cs = [v0_0, v1_0] ∧ RdS kStr w v0_0 (y.fTexts) ∧ RdS kSign w v1_0 (y.fSigns) ∧ okLedger y := by
  obtain ⟨hl, hf⟩ := trod_fields Tryz.underlying25 h
  have p0 : cs.take 0 = [] := List.take_zero
  obtain ⟨n0, x0, h0⟩ := hf 0 _ rfl
  obtain ⟨y0, v0_0, e0, r0_0, k0⟩ := opn22 h0
  have p1 := seg p0 ((congrArg (fun m => (cs.drop 0).take m) cells22.symm).trans e0)
  obtain ⟨n1, x1, h1⟩ := hf 1 _ rfl
  obtain ⟨y1, v1_0, e1, r1_0, k1⟩ := opn23 h1
  have p2 := seg p1 ((congrArg (fun m => (cs.drop 1).take m) cells23.symm).trans e1)
  exact ⟨⟨y0, y1⟩, v0_0, v1_0, (seg_all p2 (hl.trans cells25)), r0_0, r1_0, ⟨k0, k1⟩⟩
theorem opn57 {H : Type} {enc : TypeId × Value → H} {w : World} {base : Nat} {spare : Nat → Bool} {held : Bool} {fuel : Nat} {cs : List Value} {x : DataW H × List MemPlace} (h : DataW.trod enc Tryz.prog w base spare held fuel 57 cs = some x) : ∃ (y : Ref), cs = [.int .i64 y.fTx, .int .i64 y.fAt] ∧ okRef y := by
  obtain ⟨hl, hf⟩ := trod_fields Tryz.underlying57 h
  have p0 : cs.take 0 = [] := List.take_zero
  obtain ⟨n0, x0, h0⟩ := hf 0 _ rfl
  obtain ⟨y0, e0, k0⟩ := opn2 h0
  have p1 := seg p0 ((congrArg (fun m => (cs.drop 0).take m) cells2.symm).trans e0)
  obtain ⟨n1, x1, h1⟩ := hf 1 _ rfl
  obtain ⟨y1, e1, k1⟩ := opn2 h1
  have p2 := seg p1 ((congrArg (fun m => (cs.drop 1).take m) cells2.symm).trans e1)
  exact ⟨⟨y0, y1⟩, (seg_all p2 (hl.trans cells57)), ⟨k0, k1⟩⟩
theorem opn58 {H : Type} {enc : TypeId × Value → H} {w : World} {base : Nat} {spare : Nat → Bool} {held : Bool} {fuel : Nat} {cs : List Value} {x : DataW H × List MemPlace} (h : DataW.trod enc Tryz.prog w base spare held fuel 58 cs = some x) : ∃ (ys : List Int) (v : Value), cs = [v] ∧ RdS kInt w v ys ∧ Lok (iOk .i64) ys :=
  open_rds (d := kInt) (ok := (iOk .i64)) Tryz.underlying58 cells2 rfl (fun h => by obtain ⟨y, e, k⟩ := opn2 h; exact ⟨y, e, k⟩) h
theorem opn60 {H : Type} {enc : TypeId × Value → H} {w : World} {base : Nat} {spare : Nat → Bool} {held : Bool} {fuel : Nat} {cs : List Value} {x : DataW H × List MemPlace} (h : DataW.trod enc Tryz.prog w base spare held fuel 60 cs = some x) : ∃ (y : Rule) (v0_0 : Value), cs = [v0_0, .int .i64 y.fNeed, .int .i64 y.fAfter] ∧ RdS kInt w v0_0 (y.fKeys) ∧ okRule y := by
  obtain ⟨hl, hf⟩ := trod_fields Tryz.underlying60 h
  have p0 : cs.take 0 = [] := List.take_zero
  obtain ⟨n0, x0, h0⟩ := hf 0 _ rfl
  obtain ⟨y0, v0_0, e0, r0_0, k0⟩ := opn58 h0
  have p1 := seg p0 ((congrArg (fun m => (cs.drop 0).take m) cells58.symm).trans e0)
  obtain ⟨n1, x1, h1⟩ := hf 1 _ rfl
  obtain ⟨y1, e1, k1⟩ := opn2 h1
  have p2 := seg p1 ((congrArg (fun m => (cs.drop 1).take m) cells2.symm).trans e1)
  obtain ⟨n2, x2, h2⟩ := hf 2 _ rfl
  obtain ⟨y2, e2, k2⟩ := opn2 h2
  have p3 := seg p2 ((congrArg (fun m => (cs.drop 2).take m) cells2.symm).trans e2)
  exact ⟨⟨y0, y1, y2⟩, v0_0, (seg_all p3 (hl.trans cells60)), r0_0, ⟨k0, k1, k2⟩⟩
theorem opn62 {H : Type} {enc : TypeId × Value → H} {w : World} {base : Nat} {spare : Nat → Bool} {held : Bool} {fuel : Nat} {cs : List Value} {x : DataW H × List MemPlace} (h : DataW.trod enc Tryz.prog w base spare held fuel 62 cs = some x) : ∃ (y : Out) (v1_0 : Value), cs = [.int .i64 y.fValue, v1_0, .int .i64 y.fRule.fNeed, .int .i64 y.fRule.fAfter] ∧ RdS kInt w v1_0 (y.fRule.fKeys) ∧ okOut y := by
  obtain ⟨hl, hf⟩ := trod_fields Tryz.underlying62 h
  have p0 : cs.take 0 = [] := List.take_zero
  obtain ⟨n0, x0, h0⟩ := hf 0 _ rfl
  obtain ⟨y0, e0, k0⟩ := opn2 h0
  have p1 := seg p0 ((congrArg (fun m => (cs.drop 0).take m) cells2.symm).trans e0)
  obtain ⟨n1, x1, h1⟩ := hf 1 _ rfl
  obtain ⟨y1, v1_0, e1, r1_0, k1⟩ := opn60 h1
  have p2 := seg p1 ((congrArg (fun m => (cs.drop 1).take m) cells60.symm).trans e1)
  exact ⟨⟨y0, y1⟩, v1_0, (seg_all p2 (hl.trans cells62)), r1_0, ⟨k0, k1⟩⟩
theorem opn4 {H : Type} {enc : TypeId × Value → H} {w : World} {base : Nat} {spare : Nat → Bool} {held : Bool} {fuel : Nat} {cs : List Value} {x : DataW H × List MemPlace} (h : DataW.trod enc Tryz.prog w base spare held fuel 4 cs = some x) : ∃ y : Bool, cs = [.bool y] ∧ bOk y := by
  obtain ⟨n, h1, _⟩ := DataW.trod_bool Tryz.underlying4 h
  exact ⟨n, h1, trivial⟩
theorem opn64 {H : Type} {enc : TypeId × Value → H} {w : World} {base : Nat} {spare : Nat → Bool} {held : Bool} {fuel : Nat} {cs : List Value} {x : DataW H × List MemPlace} (h : DataW.trod enc Tryz.prog w base spare held fuel 64 cs = some x) : ∃ (y : Coin) (v1_0 : Value), cs = [.int .i64 y.fRef.fTx, .int .i64 y.fRef.fAt, .int .i64 y.fOut.fValue, v1_0, .int .i64 y.fOut.fRule.fNeed, .int .i64 y.fOut.fRule.fAfter, .int .i64 y.fHeight, .bool y.fMined] ∧ RdS kInt w v1_0 (y.fOut.fRule.fKeys) ∧ okCoin y := by
  obtain ⟨hl, hf⟩ := trod_fields Tryz.underlying64 h
  have p0 : cs.take 0 = [] := List.take_zero
  obtain ⟨n0, x0, h0⟩ := hf 0 _ rfl
  obtain ⟨y0, e0, k0⟩ := opn57 h0
  have p1 := seg p0 ((congrArg (fun m => (cs.drop 0).take m) cells57.symm).trans e0)
  obtain ⟨n1, x1, h1⟩ := hf 1 _ rfl
  obtain ⟨y1, v1_0, e1, r1_0, k1⟩ := opn62 h1
  have p2 := seg p1 ((congrArg (fun m => (cs.drop 2).take m) cells62.symm).trans e1)
  obtain ⟨n2, x2, h2⟩ := hf 2 _ rfl
  obtain ⟨y2, e2, k2⟩ := opn2 h2
  have p3 := seg p2 ((congrArg (fun m => (cs.drop 6).take m) cells2.symm).trans e2)
  obtain ⟨n3, x3, h3⟩ := hf 3 _ rfl
  obtain ⟨y3, e3, k3⟩ := opn4 h3
  have p4 := seg p3 ((congrArg (fun m => (cs.drop 7).take m) cells4.symm).trans e3)
  exact ⟨⟨y0, y1, y2, y3⟩, v1_0, (seg_all p4 (hl.trans cells64)), r1_0, ⟨k0, k1, k2, k3⟩⟩
theorem opn26 {H : Type} {enc : TypeId × Value → H} {w : World} {base : Nat} {spare : Nat → Bool} {held : Bool} {fuel : Nat} {cs : List Value} {x : DataW H × List MemPlace} (h : DataW.trod enc Tryz.prog w base spare held fuel 26 cs = some x) : ∃ (ys : List Coin) (v : Value), cs = [v] ∧ RdS kCoin w v ys ∧ Lok okCoin ys :=
  open_rds (d := kCoin) (ok := okCoin) Tryz.underlying26 cells64 rfl (fun h => by obtain ⟨y, v0, e, r0, k⟩ := opn64 h; exact ⟨y, ⟨v0, e, r0⟩, k⟩) h
theorem opn27 {H : Type} {enc : TypeId × Value → H} {w : World} {base : Nat} {spare : Nat → Bool} {held : Bool} {fuel : Nat} {cs : List Value} {x : DataW H × List MemPlace} (h : DataW.trod enc Tryz.prog w base spare held fuel 27 cs = some x) : ∃ (ys : List Ref) (v : Value), cs = [v] ∧ RdS kRef w v ys ∧ Lok okRef ys :=
  open_rds (d := kRef) (ok := okRef) Tryz.underlying27 cells57 rfl (fun h => by obtain ⟨y, e, k⟩ := opn57 h; exact ⟨y, e, k⟩) h
theorem opn28 {H : Type} {enc : TypeId × Value → H} {w : World} {base : Nat} {spare : Nat → Bool} {held : Bool} {fuel : Nat} {cs : List Value} {x : DataW H × List MemPlace} (h : DataW.trod enc Tryz.prog w base spare held fuel 28 cs = some x) : ∃ (ys : List Out) (v : Value), cs = [v] ∧ RdS kOut w v ys ∧ Lok okOut ys :=
  open_rds (d := kOut) (ok := okOut) Tryz.underlying28 cells62 rfl (fun h => by obtain ⟨y, v0, e, r0, k⟩ := opn62 h; exact ⟨y, ⟨v0, e, r0⟩, k⟩) h
theorem opn30 {H : Type} {enc : TypeId × Value → H} {w : World} {base : Nat} {spare : Nat → Bool} {held : Bool} {fuel : Nat} {cs : List Value} {x : DataW H × List MemPlace} (h : DataW.trod enc Tryz.prog w base spare held fuel 30 cs = some x) : ∃ (y : Tx) (v2_0 : Value) (v3_0 : Value), cs = [.int .i64 y.fKind, .int .i64 y.fMember, v2_0, v3_0] ∧ RdS kRef w v2_0 (y.fIns) ∧ RdS kOut w v3_0 (y.fOuts) ∧ okTx y := by
  obtain ⟨hl, hf⟩ := trod_fields Tryz.underlying30 h
  have p0 : cs.take 0 = [] := List.take_zero
  obtain ⟨n0, x0, h0⟩ := hf 0 _ rfl
  obtain ⟨y0, e0, k0⟩ := opn2 h0
  have p1 := seg p0 ((congrArg (fun m => (cs.drop 0).take m) cells2.symm).trans e0)
  obtain ⟨n1, x1, h1⟩ := hf 1 _ rfl
  obtain ⟨y1, e1, k1⟩ := opn2 h1
  have p2 := seg p1 ((congrArg (fun m => (cs.drop 1).take m) cells2.symm).trans e1)
  obtain ⟨n2, x2, h2⟩ := hf 2 _ rfl
  obtain ⟨y2, v2_0, e2, r2_0, k2⟩ := opn27 h2
  have p3 := seg p2 ((congrArg (fun m => (cs.drop 2).take m) cells27.symm).trans e2)
  obtain ⟨n3, x3, h3⟩ := hf 3 _ rfl
  obtain ⟨y3, v3_0, e3, r3_0, k3⟩ := opn28 h3
  have p4 := seg p3 ((congrArg (fun m => (cs.drop 3).take m) cells28.symm).trans e3)
  exact ⟨⟨y0, y1, y2, y3⟩, v2_0, v3_0, (seg_all p4 (hl.trans cells30)), r2_0, r3_0, ⟨k0, k1, k2, k3⟩⟩
theorem laidOut : laidOutB Tryz.prog = true := by kernel_rfl
end Go.Proofs.YtpfaihnmonfkhaaGreatDoor.Zk
