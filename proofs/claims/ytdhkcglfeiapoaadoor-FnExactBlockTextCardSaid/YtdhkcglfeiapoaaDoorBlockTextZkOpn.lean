/- The law's arguments, opened. Conditions: as each theorem states them. -/
import Derived.Test.YtdhkcglfeiapoaaDoorBlockTextZkTy
import Derived.Test.YtdhkcglfeiapoaaDoorZkOpen
namespace Go.Proofs.YtdhkcglfeiapoaaDoor.Zk
open Go Go.RowKit
set_option linter.unusedVariables false
abbrev okBlock (x : Block) : Prop := (iOk .i64) x.fPrev ∧ (iOk .i64) x.fHeight ∧ (iOk .i64) x.fMiner ∧ (Lok (iOk .i64)) x.fTxs
abbrev okTextResult (x : TextResult) : Prop := (iOk .i64) x.fCode ∧ sOk x.fText
theorem cells2 : Tryd.prog.cellsOf 2 = 1 := by kernel_rfl
theorem cells22 : Tryd.prog.cellsOf 22 = 1 := by kernel_rfl
theorem cells35 : Tryd.prog.cellsOf 35 = 4 := by kernel_rfl
theorem opn2 {H : Type} {enc : TypeId × Value → H} {w : World} {base : Nat} {spare : Nat → Bool} {held : Bool} {fuel : Nat} {cs : List Value} {x : DataW H × List MemPlace} (h : DataW.trod enc Tryd.prog w base spare held fuel 2 cs = some x) : ∃ y : Int, cs = [.int .i64 y] ∧ iOk .i64 y := by
  obtain ⟨n, h1, _, h2⟩ := DataW.trod_int Tryd.underlying2 h
  exact ⟨n, h1, h2⟩
theorem opn22 {H : Type} {enc : TypeId × Value → H} {w : World} {base : Nat} {spare : Nat → Bool} {held : Bool} {fuel : Nat} {cs : List Value} {x : DataW H × List MemPlace} (h : DataW.trod enc Tryd.prog w base spare held fuel 22 cs = some x) : ∃ (ys : List Int) (v : Value), cs = [v] ∧ RdS kInt w v ys ∧ Lok (iOk .i64) ys :=
  open_rds (d := kInt) (ok := (iOk .i64)) Tryd.underlying22 cells2 rfl (fun h => by obtain ⟨y, e, k⟩ := opn2 h; exact ⟨y, e, k⟩) h
theorem opn35 {H : Type} {enc : TypeId × Value → H} {w : World} {base : Nat} {spare : Nat → Bool} {held : Bool} {fuel : Nat} {cs : List Value} {x : DataW H × List MemPlace} (h : DataW.trod enc Tryd.prog w base spare held fuel 35 cs = some x) : ∃ (y : Block) (v3_0 : Value), cs = [.int .i64 y.fPrev, .int .i64 y.fHeight, .int .i64 y.fMiner, v3_0] ∧ RdS kInt w v3_0 (y.fTxs) ∧ okBlock y := by
  obtain ⟨hl, hf⟩ := trod_fields Tryd.underlying35 h
  have p0 : cs.take 0 = [] := List.take_zero
  obtain ⟨n0, x0, h0⟩ := hf 0 _ rfl
  obtain ⟨y0, e0, k0⟩ := opn2 h0
  have p1 := seg p0 ((congrArg (fun m => (cs.drop 0).take m) cells2.symm).trans e0)
  obtain ⟨n1, x1, h1⟩ := hf 1 _ rfl
  obtain ⟨y1, e1, k1⟩ := opn2 h1
  have p2 := seg p1 ((congrArg (fun m => (cs.drop 1).take m) cells2.symm).trans e1)
  obtain ⟨n2, x2, h2⟩ := hf 2 _ rfl
  obtain ⟨y2, e2, k2⟩ := opn2 h2
  have p3 := seg p2 ((congrArg (fun m => (cs.drop 2).take m) cells2.symm).trans e2)
  obtain ⟨n3, x3, h3⟩ := hf 3 _ rfl
  obtain ⟨y3, v3_0, e3, r3_0, k3⟩ := opn22 h3
  have p4 := seg p3 ((congrArg (fun m => (cs.drop 3).take m) cells22.symm).trans e3)
  exact ⟨⟨y0, y1, y2, y3⟩, v3_0, (seg_all p4 (hl.trans cells35)), r3_0, ⟨k0, k1, k2, k3⟩⟩
theorem laidOut : laidOutB Tryd.prog = true := by kernel_rfl
end Go.Proofs.YtdhkcglfeiapoaaDoor.Zk
