/- The law's arguments, opened. Conditions: as each theorem states them. -/
import Derived.Test.YtecgbhfgkkpmhabGreatUndoTxZkTy
import Derived.Test.YtecgbhfgkkpmhabGreatZkOpen
namespace Go.Proofs.YtecgbhfgkkpmhabGreat.Zk
open Go Go.RowKit
set_option linter.unusedVariables false
abbrev okRef (x : Ref) : Prop := (iOk .i64) x.fTx ∧ (iOk .i64) x.fAt
abbrev okRule (x : Rule) : Prop := (Lok (iOk .i64)) x.fKeys ∧ (iOk .i64) x.fNeed ∧ (iOk .i64) x.fAfter
abbrev okOut (x : Out) : Prop := (iOk .i64) x.fValue ∧ okRule x.fRule
abbrev okCoin (x : Coin) : Prop := okRef x.fRef ∧ okOut x.fOut ∧ (iOk .i64) x.fHeight ∧ bOk x.fMined
abbrev okTx (x : Tx) : Prop := (iOk .i64) x.fKind ∧ (iOk .i64) x.fMember ∧ (Lok okRef) x.fIns ∧ (Lok okOut) x.fOuts
abbrev okCoinsResult (x : CoinsResult) : Prop := (iOk .i64) x.fCode ∧ (Lok okCoin) x.fCoins
theorem cells2 : Tryz.prog.cellsOf 2 = 1 := by kernel_rfl
theorem cells4 : Tryz.prog.cellsOf 4 = 1 := by kernel_rfl
theorem cells22 : Tryz.prog.cellsOf 22 = 1 := by kernel_rfl
theorem cells23 : Tryz.prog.cellsOf 23 = 1 := by kernel_rfl
theorem cells24 : Tryz.prog.cellsOf 24 = 1 := by kernel_rfl
theorem cells26 : Tryz.prog.cellsOf 26 = 4 := by kernel_rfl
theorem cells48 : Tryz.prog.cellsOf 48 = 2 := by kernel_rfl
theorem cells49 : Tryz.prog.cellsOf 49 = 1 := by kernel_rfl
theorem cells51 : Tryz.prog.cellsOf 51 = 3 := by kernel_rfl
theorem cells53 : Tryz.prog.cellsOf 53 = 4 := by kernel_rfl
theorem cells55 : Tryz.prog.cellsOf 55 = 8 := by kernel_rfl
theorem opn2 {H : Type} {enc : TypeId × Value → H} {w : World} {base : Nat} {spare : Nat → Bool} {held : Bool} {fuel : Nat} {cs : List Value} {x : DataW H × List MemPlace} (h : DataW.trod enc Tryz.prog w base spare held fuel 2 cs = some x) : ∃ y : Int, cs = [.int .i64 y] ∧ iOk .i64 y := by
  obtain ⟨n, h1, _, h2⟩ := DataW.trod_int Tryz.underlying2 h
  exact ⟨n, h1, h2⟩
theorem opn48 {H : Type} {enc : TypeId × Value → H} {w : World} {base : Nat} {spare : Nat → Bool} {held : Bool} {fuel : Nat} {cs : List Value} {x : DataW H × List MemPlace} (h : DataW.trod enc Tryz.prog w base spare held fuel 48 cs = some x) : ∃ (y : Ref), cs = [.int .i64 y.fTx, .int .i64 y.fAt] ∧ okRef y := by
  obtain ⟨hl, hf⟩ := trod_fields Tryz.underlying48 h
  have p0 : cs.take 0 = [] := List.take_zero
  obtain ⟨n0, x0, h0⟩ := hf 0 _ rfl
  obtain ⟨y0, e0, k0⟩ := opn2 h0
  have p1 := seg p0 ((congrArg (fun m => (cs.drop 0).take m) cells2.symm).trans e0)
  obtain ⟨n1, x1, h1⟩ := hf 1 _ rfl
  obtain ⟨y1, e1, k1⟩ := opn2 h1
  have p2 := seg p1 ((congrArg (fun m => (cs.drop 1).take m) cells2.symm).trans e1)
  exact ⟨⟨y0, y1⟩, (seg_all p2 (hl.trans cells48)), ⟨k0, k1⟩⟩
theorem opn49 {H : Type} {enc : TypeId × Value → H} {w : World} {base : Nat} {spare : Nat → Bool} {held : Bool} {fuel : Nat} {cs : List Value} {x : DataW H × List MemPlace} (h : DataW.trod enc Tryz.prog w base spare held fuel 49 cs = some x) : ∃ (ys : List Int) (v : Value), cs = [v] ∧ RdS kInt w v ys ∧ Lok (iOk .i64) ys :=
  open_rds (d := kInt) (ok := (iOk .i64)) Tryz.underlying49 cells2 rfl (fun h => by obtain ⟨y, e, k⟩ := opn2 h; exact ⟨y, e, k⟩) h
theorem opn51 {H : Type} {enc : TypeId × Value → H} {w : World} {base : Nat} {spare : Nat → Bool} {held : Bool} {fuel : Nat} {cs : List Value} {x : DataW H × List MemPlace} (h : DataW.trod enc Tryz.prog w base spare held fuel 51 cs = some x) : ∃ (y : Rule) (v0_0 : Value), cs = [v0_0, .int .i64 y.fNeed, .int .i64 y.fAfter] ∧ RdS kInt w v0_0 (y.fKeys) ∧ okRule y := by
  obtain ⟨hl, hf⟩ := trod_fields Tryz.underlying51 h
  have p0 : cs.take 0 = [] := List.take_zero
  obtain ⟨n0, x0, h0⟩ := hf 0 _ rfl
  obtain ⟨y0, v0_0, e0, r0_0, k0⟩ := opn49 h0
  have p1 := seg p0 ((congrArg (fun m => (cs.drop 0).take m) cells49.symm).trans e0)
  obtain ⟨n1, x1, h1⟩ := hf 1 _ rfl
  obtain ⟨y1, e1, k1⟩ := opn2 h1
  have p2 := seg p1 ((congrArg (fun m => (cs.drop 1).take m) cells2.symm).trans e1)
  obtain ⟨n2, x2, h2⟩ := hf 2 _ rfl
  obtain ⟨y2, e2, k2⟩ := opn2 h2
  have p3 := seg p2 ((congrArg (fun m => (cs.drop 2).take m) cells2.symm).trans e2)
  exact ⟨⟨y0, y1, y2⟩, v0_0, (seg_all p3 (hl.trans cells51)), r0_0, ⟨k0, k1, k2⟩⟩
theorem opn53 {H : Type} {enc : TypeId × Value → H} {w : World} {base : Nat} {spare : Nat → Bool} {held : Bool} {fuel : Nat} {cs : List Value} {x : DataW H × List MemPlace} (h : DataW.trod enc Tryz.prog w base spare held fuel 53 cs = some x) : ∃ (y : Out) (v1_0 : Value), cs = [.int .i64 y.fValue, v1_0, .int .i64 y.fRule.fNeed, .int .i64 y.fRule.fAfter] ∧ RdS kInt w v1_0 (y.fRule.fKeys) ∧ okOut y := by
  obtain ⟨hl, hf⟩ := trod_fields Tryz.underlying53 h
  have p0 : cs.take 0 = [] := List.take_zero
  obtain ⟨n0, x0, h0⟩ := hf 0 _ rfl
  obtain ⟨y0, e0, k0⟩ := opn2 h0
  have p1 := seg p0 ((congrArg (fun m => (cs.drop 0).take m) cells2.symm).trans e0)
  obtain ⟨n1, x1, h1⟩ := hf 1 _ rfl
  obtain ⟨y1, v1_0, e1, r1_0, k1⟩ := opn51 h1
  have p2 := seg p1 ((congrArg (fun m => (cs.drop 1).take m) cells51.symm).trans e1)
  exact ⟨⟨y0, y1⟩, v1_0, (seg_all p2 (hl.trans cells53)), r1_0, ⟨k0, k1⟩⟩
theorem opn4 {H : Type} {enc : TypeId × Value → H} {w : World} {base : Nat} {spare : Nat → Bool} {held : Bool} {fuel : Nat} {cs : List Value} {x : DataW H × List MemPlace} (h : DataW.trod enc Tryz.prog w base spare held fuel 4 cs = some x) : ∃ y : Bool, cs = [.bool y] ∧ bOk y := by
  obtain ⟨n, h1, _⟩ := DataW.trod_bool Tryz.underlying4 h
  exact ⟨n, h1, trivial⟩
theorem opn55 {H : Type} {enc : TypeId × Value → H} {w : World} {base : Nat} {spare : Nat → Bool} {held : Bool} {fuel : Nat} {cs : List Value} {x : DataW H × List MemPlace} (h : DataW.trod enc Tryz.prog w base spare held fuel 55 cs = some x) : ∃ (y : Coin) (v1_0 : Value), cs = [.int .i64 y.fRef.fTx, .int .i64 y.fRef.fAt, .int .i64 y.fOut.fValue, v1_0, .int .i64 y.fOut.fRule.fNeed, .int .i64 y.fOut.fRule.fAfter, .int .i64 y.fHeight, .bool y.fMined] ∧ RdS kInt w v1_0 (y.fOut.fRule.fKeys) ∧ okCoin y := by
  obtain ⟨hl, hf⟩ := trod_fields Tryz.underlying55 h
  have p0 : cs.take 0 = [] := List.take_zero
  obtain ⟨n0, x0, h0⟩ := hf 0 _ rfl
  obtain ⟨y0, e0, k0⟩ := opn48 h0
  have p1 := seg p0 ((congrArg (fun m => (cs.drop 0).take m) cells48.symm).trans e0)
  obtain ⟨n1, x1, h1⟩ := hf 1 _ rfl
  obtain ⟨y1, v1_0, e1, r1_0, k1⟩ := opn53 h1
  have p2 := seg p1 ((congrArg (fun m => (cs.drop 2).take m) cells53.symm).trans e1)
  obtain ⟨n2, x2, h2⟩ := hf 2 _ rfl
  obtain ⟨y2, e2, k2⟩ := opn2 h2
  have p3 := seg p2 ((congrArg (fun m => (cs.drop 6).take m) cells2.symm).trans e2)
  obtain ⟨n3, x3, h3⟩ := hf 3 _ rfl
  obtain ⟨y3, e3, k3⟩ := opn4 h3
  have p4 := seg p3 ((congrArg (fun m => (cs.drop 7).take m) cells4.symm).trans e3)
  exact ⟨⟨y0, y1, y2, y3⟩, v1_0, (seg_all p4 (hl.trans cells55)), r1_0, ⟨k0, k1, k2, k3⟩⟩
theorem opn22 {H : Type} {enc : TypeId × Value → H} {w : World} {base : Nat} {spare : Nat → Bool} {held : Bool} {fuel : Nat} {cs : List Value} {x : DataW H × List MemPlace} (h : DataW.trod enc Tryz.prog w base spare held fuel 22 cs = some x) : ∃ (ys : List Coin) (v : Value), cs = [v] ∧ RdS kCoin w v ys ∧ Lok okCoin ys :=
  open_rds (d := kCoin) (ok := okCoin) Tryz.underlying22 cells55 rfl (fun h => by obtain ⟨y, v0, e, r0, k⟩ := opn55 h; exact ⟨y, ⟨v0, e, r0⟩, k⟩) h
theorem opn23 {H : Type} {enc : TypeId × Value → H} {w : World} {base : Nat} {spare : Nat → Bool} {held : Bool} {fuel : Nat} {cs : List Value} {x : DataW H × List MemPlace} (h : DataW.trod enc Tryz.prog w base spare held fuel 23 cs = some x) : ∃ (ys : List Ref) (v : Value), cs = [v] ∧ RdS kRef w v ys ∧ Lok okRef ys :=
  open_rds (d := kRef) (ok := okRef) Tryz.underlying23 cells48 rfl (fun h => by obtain ⟨y, e, k⟩ := opn48 h; exact ⟨y, e, k⟩) h
theorem opn24 {H : Type} {enc : TypeId × Value → H} {w : World} {base : Nat} {spare : Nat → Bool} {held : Bool} {fuel : Nat} {cs : List Value} {x : DataW H × List MemPlace} (h : DataW.trod enc Tryz.prog w base spare held fuel 24 cs = some x) : ∃ (ys : List Out) (v : Value), cs = [v] ∧ RdS kOut w v ys ∧ Lok okOut ys :=
  open_rds (d := kOut) (ok := okOut) Tryz.underlying24 cells53 rfl (fun h => by obtain ⟨y, v0, e, r0, k⟩ := opn53 h; exact ⟨y, ⟨v0, e, r0⟩, k⟩) h
theorem opn26 {H : Type} {enc : TypeId × Value → H} {w : World} {base : Nat} {spare : Nat → Bool} {held : Bool} {fuel : Nat} {cs : List Value} {x : DataW H × List MemPlace} (h : DataW.trod enc Tryz.prog w base spare held fuel 26 cs = some x) : ∃ (y : Tx) (v2_0 : Value) (v3_0 : Value), cs = [.int .i64 y.fKind, .int .i64 y.fMember, v2_0, v3_0] ∧ RdS kRef w v2_0 (y.fIns) ∧ RdS kOut w v3_0 (y.fOuts) ∧ okTx y := by
  obtain ⟨hl, hf⟩ := trod_fields Tryz.underlying26 h
  have p0 : cs.take 0 = [] := List.take_zero
  obtain ⟨n0, x0, h0⟩ := hf 0 _ rfl
  obtain ⟨y0, e0, k0⟩ := opn2 h0
  have p1 := seg p0 ((congrArg (fun m => (cs.drop 0).take m) cells2.symm).trans e0)
  obtain ⟨n1, x1, h1⟩ := hf 1 _ rfl
  obtain ⟨y1, e1, k1⟩ := opn2 h1
  have p2 := seg p1 ((congrArg (fun m => (cs.drop 1).take m) cells2.symm).trans e1)
  obtain ⟨n2, x2, h2⟩ := hf 2 _ rfl
  obtain ⟨y2, v2_0, e2, r2_0, k2⟩ := opn23 h2
  have p3 := seg p2 ((congrArg (fun m => (cs.drop 2).take m) cells23.symm).trans e2)
  obtain ⟨n3, x3, h3⟩ := hf 3 _ rfl
  obtain ⟨y3, v3_0, e3, r3_0, k3⟩ := opn24 h3
  have p4 := seg p3 ((congrArg (fun m => (cs.drop 3).take m) cells24.symm).trans e3)
  exact ⟨⟨y0, y1, y2, y3⟩, v2_0, v3_0, (seg_all p4 (hl.trans cells26)), r2_0, r3_0, ⟨k0, k1, k2, k3⟩⟩
theorem laidOut : laidOutB Tryz.prog = true := by kernel_rfl
end Go.Proofs.YtecgbhfgkkpmhabGreat.Zk
