/- The law's arguments, opened. Conditions: as each theorem states them. -/
import Derived.Test.YtiiimifniobfhaaDoorParseBlockZkTy
import Derived.Test.YtiiimifniobfhaaDoorZkOpen
namespace Go.Proofs.YtiiimifniobfhaaDoor.Zk
open Go Go.RowKit
set_option linter.unusedVariables false
abbrev okBlock (x : Block) : Prop := (iOk .i64) x.fPrev ∧ (iOk .i64) x.fHeight ∧ (iOk .i64) x.fMiner ∧ (Lok (iOk .i64)) x.fTxs
abbrev okBlockResult (x : BlockResult) : Prop := (iOk .i64) x.fCode ∧ okBlock x.fBlock
theorem cells9 : Tryd.prog.cellsOf 9 = 1 := by kernel_rfl
theorem opn9 {H : Type} {enc : TypeId × Value → H} {w : World} {base : Nat} {spare : Nat → Bool} {held : Bool} {fuel : Nat} {cs : List Value} {x : DataW H × List MemPlace} (h : DataW.trod enc Tryd.prog w base spare held fuel 9 cs = some x) : ∃ y : ByteArray, cs = [.string y] ∧ sOk y := by
  obtain ⟨n, h1, _, h2⟩ := DataW.trod_string Tryd.underlying9 h
  exact ⟨n, h1, h2⟩
theorem laidOut : laidOutB Tryd.prog = true := by kernel_rfl
end Go.Proofs.YtiiimifniobfhaaDoor.Zk
