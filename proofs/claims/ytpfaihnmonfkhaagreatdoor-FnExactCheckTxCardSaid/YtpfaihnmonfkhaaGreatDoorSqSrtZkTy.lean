/- The data of the program, its types' facts. No condition. -/
import Derived.Test.YtpfaihnmonfkhaaGreatDoorProg
import Derived.Test.YtpfaihnmonfkhaaGreatDoorSqZkX
namespace Go.Proofs.YtpfaihnmonfkhaaGreatDoorSq.Zk
open Go Go.RowKit Go.IntWalk Go.Proofs
set_option linter.unusedVariables false
set_option linter.unusedSimpArgs false
set_option maxRecDepth 100000
theorem onesC {a : Value} {l : List Value} (h : a.oneCell' = true) (hl : ∀ u ∈ l, u.oneCell' = true) : ∀ u ∈ a :: l, u.oneCell' = true := by intro u hu; cases hu with | head => exact h | tail _ h => exact hl u h
theorem onesN : ∀ u ∈ ([] : List Value), u.oneCell' = true := by intro u hu; cases hu
abbrev kInt : Kd Int := Kd.plain 1 (fun x => [.int .i64 x]) (fun _ => rfl) (fun _ => onesC rfl onesN)
structure Ref where
  fTx : Int
  fAt : Int
instance : Inhabited Ref := ⟨⟨default, default⟩⟩
structure Rule where
  fKeys : List Int
  fNeed : Int
  fAfter : Int
instance : Inhabited Rule := ⟨⟨default, default, default⟩⟩
structure Out where
  fValue : Int
  fRule : Rule
instance : Inhabited Out := ⟨⟨default, default⟩⟩
structure Coin where
  fRef : Ref
  fOut : Out
  fHeight : Int
  fMined : Bool
instance : Inhabited Coin := ⟨⟨default, default, default, default⟩⟩
theorem tsz2 : tsz Tryz.prog 2 = some 1 := by kernel_rfl
theorem tsz3 : tsz Tryz.prog 3 = some 1 := by kernel_rfl
theorem tsz81 : tsz Tryz.prog 81 = some 2 := by kernel_rfl
theorem mixed : Tryz.prog.follows .mixedOrders = true := by kernel_rfl
theorem callok69 : CallOK Tryz.prog 69 := ⟨_, Tryz.func69, rfl, rfl⟩
theorem callok96 : CallOK Tryz.prog 96 := ⟨_, Tryz.func96, rfl, rfl⟩
theorem callok97 : CallOK Tryz.prog 97 := ⟨_, Tryz.func97, rfl, rfl⟩
theorem callok112 : CallOK Tryz.prog 112 := ⟨_, Tryz.func112, rfl, rfl⟩

end Go.Proofs.YtpfaihnmonfkhaaGreatDoorSq.Zk
