/- The law's arguments, opened. Conditions: as each theorem states them. -/
import Derived.Test.YtigojhglkilodaaNoteTextZkTy
import Derived.Test.YtigojhglkilodaaZkOpen
namespace Go.Proofs.Ytigojhglkilodaa.Zk
open Go Go.RowKit
set_option linter.unusedVariables false
abbrev okSign (x : Sign) : Prop := (iOk .i64) x.fKey ∧ (iOk .i64) x.fId
abbrev okLedger (x : Ledger) : Prop := (Lok sOk) x.fTexts ∧ (Lok okSign) x.fSigns
abbrev okLedgerResult (x : LedgerResult) : Prop := (iOk .i64) x.fCode ∧ (iOk .i64) x.fId ∧ okLedger x.fLedger
theorem cells2 : Try.prog.cellsOf 2 = 1 := by kernel_rfl
theorem cells9 : Try.prog.cellsOf 9 = 1 := by kernel_rfl
theorem cells22 : Try.prog.cellsOf 22 = 1 := by kernel_rfl
theorem cells23 : Try.prog.cellsOf 23 = 1 := by kernel_rfl
theorem cells25 : Try.prog.cellsOf 25 = 2 := by kernel_rfl
theorem cells164 : Try.prog.cellsOf 164 = 2 := by kernel_rfl
theorem opn9 {H : Type} {enc : TypeId × Value → H} {w : World} {base : Nat} {spare : Nat → Bool} {held : Bool} {fuel : Nat} {cs : List Value} {x : DataW H × List MemPlace} (h : DataW.trod enc Try.prog w base spare held fuel 9 cs = some x) : ∃ y : ByteArray, cs = [.string y] ∧ sOk y := by
  obtain ⟨n, h1, _, h2⟩ := DataW.trod_string Try.underlying9 h
  exact ⟨n, h1, h2⟩
theorem opn22 {H : Type} {enc : TypeId × Value → H} {w : World} {base : Nat} {spare : Nat → Bool} {held : Bool} {fuel : Nat} {cs : List Value} {x : DataW H × List MemPlace} (h : DataW.trod enc Try.prog w base spare held fuel 22 cs = some x) : ∃ (ys : List ByteArray) (v : Value), cs = [v] ∧ RdS kStr w v ys ∧ Lok sOk ys :=
  open_rds (d := kStr) (ok := sOk) Try.underlying22 cells9 rfl (fun h => by obtain ⟨y, e, k⟩ := opn9 h; exact ⟨y, e, k⟩) h
theorem opn2 {H : Type} {enc : TypeId × Value → H} {w : World} {base : Nat} {spare : Nat → Bool} {held : Bool} {fuel : Nat} {cs : List Value} {x : DataW H × List MemPlace} (h : DataW.trod enc Try.prog w base spare held fuel 2 cs = some x) : ∃ y : Int, cs = [.int .i64 y] ∧ iOk .i64 y := by
  obtain ⟨n, h1, _, h2⟩ := DataW.trod_int Try.underlying2 h
  exact ⟨n, h1, h2⟩
theorem opn164 {H : Type} {enc : TypeId × Value → H} {w : World} {base : Nat} {spare : Nat → Bool} {held : Bool} {fuel : Nat} {cs : List Value} {x : DataW H × List MemPlace} (h : DataW.trod enc Try.prog w base spare held fuel 164 cs = some x) : ∃ (y : Sign), cs = [.int .i64 y.fKey, .int .i64 y.fId] ∧ okSign y := by
  obtain ⟨hl, hf⟩ := trod_fields Try.underlying164 h
  have p0 : cs.take 0 = [] := List.take_zero
  obtain ⟨n0, x0, h0⟩ := hf 0 _ rfl
  obtain ⟨y0, e0, k0⟩ := opn2 h0
  have p1 := seg p0 ((congrArg (fun m => (cs.drop 0).take m) cells2.symm).trans e0)
  obtain ⟨n1, x1, h1⟩ := hf 1 _ rfl
  obtain ⟨y1, e1, k1⟩ := opn2 h1
  have p2 := seg p1 ((congrArg (fun m => (cs.drop 1).take m) cells2.symm).trans e1)
  exact ⟨⟨y0, y1⟩, (seg_all p2 (hl.trans cells164)), ⟨k0, k1⟩⟩
theorem opn23 {H : Type} {enc : TypeId × Value → H} {w : World} {base : Nat} {spare : Nat → Bool} {held : Bool} {fuel : Nat} {cs : List Value} {x : DataW H × List MemPlace} (h : DataW.trod enc Try.prog w base spare held fuel 23 cs = some x) : ∃ (ys : List Sign) (v : Value), cs = [v] ∧ RdS kSign w v ys ∧ Lok okSign ys :=
  open_rds (d := kSign) (ok := okSign) Try.underlying23 cells164 rfl (fun h => by obtain ⟨y, e, k⟩ := opn164 h; exact ⟨y, e, k⟩) h
theorem opn25 {H : Type} {enc : TypeId × Value → H} {w : World} {base : Nat} {spare : Nat → Bool} {held : Bool} {fuel : Nat} {cs : List Value} {x : DataW H × List MemPlace} (h : DataW.trod enc Try.prog w base spare held fuel 25 cs = some x) : ∃ (y : Ledger) (v0_0 : Value) (v1_0 : Value), cs = [v0_0, v1_0] ∧ RdS kStr w v0_0 (y.fTexts) ∧ RdS kSign w v1_0 (y.fSigns) ∧ okLedger y := by
  obtain ⟨hl, hf⟩ := trod_fields Try.underlying25 h
  have p0 : cs.take 0 = [] := List.take_zero
  obtain ⟨n0, x0, h0⟩ := hf 0 _ rfl
  obtain ⟨y0, v0_0, e0, r0_0, k0⟩ := opn22 h0
  have p1 := seg p0 ((congrArg (fun m => (cs.drop 0).take m) cells22.symm).trans e0)
  obtain ⟨n1, x1, h1⟩ := hf 1 _ rfl
  obtain ⟨y1, v1_0, e1, r1_0, k1⟩ := opn23 h1
  have p2 := seg p1 ((congrArg (fun m => (cs.drop 1).take m) cells23.symm).trans e1)
  exact ⟨⟨y0, y1⟩, v0_0, v1_0, (seg_all p2 (hl.trans cells25)), r0_0, r1_0, ⟨k0, k1⟩⟩
theorem laidOut : laidOutB Try.prog = true := by kernel_rfl
end Go.Proofs.Ytigojhglkilodaa.Zk
