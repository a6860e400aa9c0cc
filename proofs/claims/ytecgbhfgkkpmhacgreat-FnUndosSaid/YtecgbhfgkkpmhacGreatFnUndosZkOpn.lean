/- The law's arguments, opened. Conditions: as each theorem states them. -/
import Derived.Test.YtecgbhfgkkpmhacGreatFnUndosZkTy
import Derived.Test.YtecgbhfgkkpmhacGreatZkOpen
namespace Go.Proofs.YtecgbhfgkkpmhacGreat.Zk
open Go Go.RowKit
set_option linter.unusedVariables false
theorem cells5 : Tryz.prog.cellsOf 5 = 1 := by kernel_rfl
theorem opn5 {H : Type} {enc : TypeId × Value → H} {w : World} {base : Nat} {spare : Nat → Bool} {held : Bool} {fuel : Nat} {cs : List Value} {x : DataW H × List MemPlace} (h : DataW.trod enc Tryz.prog w base spare held fuel 5 cs = some x) : ∃ y : Int, cs = [.int .u8 y] ∧ iOk .u8 y := by
  obtain ⟨n, h1, _, h2⟩ := DataW.trod_int Tryz.underlying5 h
  exact ⟨n, h1, h2⟩
theorem opn22 {H : Type} {enc : TypeId × Value → H} {w : World} {base : Nat} {spare : Nat → Bool} {held : Bool} {fuel : Nat} {cs : List Value} {x : DataW H × List MemPlace} (h : DataW.trod enc Tryz.prog w base spare held fuel 22 cs = some x) : ∃ (ys : List Int) (v : Value), cs = [v] ∧ RdS kU8 w v ys ∧ Lok (iOk .u8) ys :=
  open_rds (d := kU8) (ok := (iOk .u8)) Tryz.underlying22 cells5 rfl (fun h => by obtain ⟨y, e, k⟩ := opn5 h; exact ⟨y, e, k⟩) h
theorem laidOut : laidOutB Tryz.prog = true := by kernel_rfl
end Go.Proofs.YtecgbhfgkkpmhacGreat.Zk
