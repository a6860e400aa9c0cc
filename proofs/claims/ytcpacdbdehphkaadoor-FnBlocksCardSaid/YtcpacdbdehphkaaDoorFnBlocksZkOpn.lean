/- The law's arguments, opened. Conditions: as each theorem states them. -/
import Derived.Test.YtcpacdbdehphkaaDoorFnBlocksZkTy
import Derived.Test.YtcpacdbdehphkaaDoorZkOpen
namespace Go.Proofs.YtcpacdbdehphkaaDoor.Zk
open Go Go.RowKit
set_option linter.unusedVariables false
abbrev okl1Src (x : l1Src) : Prop := (Lok (iOk .u8)) x.fCode ∧ (iOk .i64) x.fAt
abbrev okBlock (x : Block) : Prop := (iOk .i64) x.fPrev ∧ (iOk .i64) x.fHeight ∧ (iOk .i64) x.fMiner ∧ (Lok (iOk .i64)) x.fTxs
abbrev okBlockResult (x : BlockResult) : Prop := (iOk .i64) x.fCode ∧ okBlock x.fBlock
abbrev okTextResult (x : TextResult) : Prop := (iOk .i64) x.fCode ∧ sOk x.fText
abbrev okIntResult (x : IntResult) : Prop := (iOk .i64) x.fCode ∧ (iOk .i64) x.fValue
theorem cells5 : Tryd.prog.cellsOf 5 = 1 := by kernel_rfl
theorem cells47 : Tryd.prog.cellsOf 47 = 1 := by kernel_rfl
theorem opn5 {H : Type} {enc : TypeId × Value → H} {w : World} {base : Nat} {spare : Nat → Bool} {held : Bool} {fuel : Nat} {cs : List Value} {x : DataW H × List MemPlace} (h : DataW.trod enc Tryd.prog w base spare held fuel 5 cs = some x) : ∃ y : Int, cs = [.int .u8 y] ∧ iOk .u8 y := by
  obtain ⟨n, h1, _, h2⟩ := DataW.trod_int Tryd.underlying5 h
  exact ⟨n, h1, h2⟩
theorem opn47 {H : Type} {enc : TypeId × Value → H} {w : World} {base : Nat} {spare : Nat → Bool} {held : Bool} {fuel : Nat} {cs : List Value} {x : DataW H × List MemPlace} (h : DataW.trod enc Tryd.prog w base spare held fuel 47 cs = some x) : ∃ (ys : List Int) (v : Value), cs = [v] ∧ RdS kU8 w v ys ∧ Lok (iOk .u8) ys :=
  open_rds (d := kU8) (ok := (iOk .u8)) Tryd.underlying47 cells5 rfl (fun h => by obtain ⟨y, e, k⟩ := opn5 h; exact ⟨y, e, k⟩) h
theorem laidOut : laidOutB Tryd.prog = true := by kernel_rfl
end Go.Proofs.YtcpacdbdehphkaaDoor.Zk
