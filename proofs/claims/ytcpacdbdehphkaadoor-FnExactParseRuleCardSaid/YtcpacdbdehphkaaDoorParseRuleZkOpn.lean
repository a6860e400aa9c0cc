/- The law's arguments, opened. Conditions: as each theorem states them. -/
import Derived.Test.YtcpacdbdehphkaaDoorParseRuleZkTy
import Derived.Test.YtcpacdbdehphkaaDoorZkOpen
namespace Go.Proofs.YtcpacdbdehphkaaDoor.Zk
open Go Go.RowKit
set_option linter.unusedVariables false
abbrev okRule (x : Rule) : Prop := (Lok (iOk .i64)) x.fKeys ∧ (iOk .i64) x.fNeed ∧ (iOk .i64) x.fAfter
abbrev okRuleResult (x : RuleResult) : Prop := (iOk .i64) x.fCode ∧ okRule x.fRule
theorem cells9 : Tryd.prog.cellsOf 9 = 1 := by kernel_rfl
theorem opn9 {H : Type} {enc : TypeId × Value → H} {w : World} {base : Nat} {spare : Nat → Bool} {held : Bool} {fuel : Nat} {cs : List Value} {x : DataW H × List MemPlace} (h : DataW.trod enc Tryd.prog w base spare held fuel 9 cs = some x) : ∃ y : ByteArray, cs = [.string y] ∧ sOk y := by
  obtain ⟨n, h1, _, h2⟩ := DataW.trod_string Tryd.underlying9 h
  exact ⟨n, h1, h2⟩
theorem laidOut : laidOutB Tryd.prog = true := by kernel_rfl
end Go.Proofs.YtcpacdbdehphkaaDoor.Zk
