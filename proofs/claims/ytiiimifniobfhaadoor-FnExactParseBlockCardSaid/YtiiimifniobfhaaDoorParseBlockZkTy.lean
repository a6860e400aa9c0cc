/- The data of the program, its types' facts. No condition. -/
import Derived.Test.YtiiimifniobfhaaDoorProg
import Derived.Test.YtiiimifniobfhaaDoorZkP
namespace Go.Proofs.YtiiimifniobfhaaDoor.Zk
open Go Go.RowKit Go.IntWalk Go.Proofs
set_option linter.unusedVariables false
set_option linter.unusedSimpArgs false
set_option maxRecDepth 100000
theorem one1 {P : Value → Prop} {a : Value} (h : P a) : ∀ u ∈ [a], P u := by intro u hu; cases hu with | head => exact h | tail _ h => cases h
theorem onesC {a : Value} {l : List Value} (h : a.oneCell' = true) (hl : ∀ u ∈ l, u.oneCell' = true) : ∀ u ∈ a :: l, u.oneCell' = true := by intro u hu; cases hu with | head => exact h | tail _ h => exact hl u h
theorem onesN : ∀ u ∈ ([] : List Value), u.oneCell' = true := by intro u hu; cases hu
abbrev kInt : Kd Int := Kd.plain 1 (fun x => [.int .i64 x]) (fun _ => rfl) (fun _ => onesC rfl onesN)
abbrev kU8 : Kd Int := Kd.plain 1 (fun x => [.int .u8 x]) (fun _ => rfl) (fun _ => onesC rfl onesN)
abbrev kStr : Kd ByteArray := Kd.plain 1 (fun x => [.string x]) (fun _ => rfl) (fun _ => onesC rfl onesN)
abbrev kBool : Kd Bool := Kd.plain 1 (fun x => [.bool x]) (fun _ => rfl) (fun _ => onesC rfl onesN)
structure Block where
  fPrev : Int
  fHeight : Int
  fMiner : Int
  fTxs : List Int
instance : Inhabited Block := ⟨⟨default, default, default, default⟩⟩
structure BlockResult where
  fCode : Int
  fBlock : Block
instance : Inhabited BlockResult := ⟨⟨default, default⟩⟩
theorem tsz2 : tsz Tryd.prog 2 = some 1 := by kernel_rfl
theorem tby2 : tby Tryd.prog 2 = some 8 := by kernel_rfl
theorem tz2 : tzero Tryd.prog 2 = some (.int .i64 0) := by kernel_rfl
theorem tsz3 : tsz Tryd.prog 3 = some 1 := by kernel_rfl
theorem tby3 : tby Tryd.prog 3 = some 8 := by kernel_rfl
theorem tz3 : tzero Tryd.prog 3 = some (.int .i64 0) := by kernel_rfl
theorem tsz4 : tsz Tryd.prog 4 = some 1 := by kernel_rfl
theorem tby4 : tby Tryd.prog 4 = some 1 := by kernel_rfl
theorem tz4 : tzero Tryd.prog 4 = some (.bool false) := by kernel_rfl
theorem tsz5 : tsz Tryd.prog 5 = some 1 := by kernel_rfl
theorem tby5 : tby Tryd.prog 5 = some 1 := by kernel_rfl
theorem tz5 : tzero Tryd.prog 5 = some (.int .u8 0) := by kernel_rfl
theorem tsz9 : tsz Tryd.prog 9 = some 1 := by kernel_rfl
theorem tby9 : tby Tryd.prog 9 = some 16 := by kernel_rfl
theorem tz9 : tzero Tryd.prog 9 = some (.string ⟨#[]⟩) := by kernel_rfl
theorem tsz38 : tsz Tryd.prog 38 = some 1 := by kernel_rfl
theorem tby38 : tby Tryd.prog 38 = some 24 := by kernel_rfl
theorem tz38 : tzero Tryd.prog 38 = some (.slice none 0 0) := by kernel_rfl
theorem tsz48 : tsz Tryd.prog 48 = some 4 := by kernel_rfl
theorem tby48 : tby Tryd.prog 48 = some 48 := by kernel_rfl
theorem tz48 : tzero Tryd.prog 48 = some (.agg #[(.int .i64 0), (.int .i64 0), (.int .i64 0), (.slice none 0 0)]) := by kernel_rfl
theorem tsz50 : tsz Tryd.prog 50 = some 5 := by kernel_rfl
theorem tby50 : tby Tryd.prog 50 = some 56 := by kernel_rfl
theorem tz50 : tzero Tryd.prog 50 = some (.agg #[(.int .i64 0), (.int .i64 0), (.int .i64 0), (.int .i64 0), (.slice none 0 0)]) := by kernel_rfl
theorem tsz90 : tsz Tryd.prog 90 = some 1 := by kernel_rfl
theorem tsz107 : tsz Tryd.prog 107 = some 1 := by kernel_rfl
theorem tby107 : tby Tryd.prog 107 = some 24 := by kernel_rfl
theorem tz107 : tzero Tryd.prog 107 = some (.slice none 0 0) := by kernel_rfl
theorem tsz147 : tsz Tryd.prog 147 = some 1 := by kernel_rfl
theorem mixed : Tryd.prog.follows .mixedOrders = true := by kernel_rfl
theorem callok18 : CallOK Tryd.prog 18 := ⟨_, Tryd.func18, rfl, rfl⟩
theorem callok19 : CallOK Tryd.prog 19 := ⟨_, Tryd.func19, rfl, rfl⟩
theorem callok20 : CallOK Tryd.prog 20 := ⟨_, Tryd.func20, rfl, rfl⟩
theorem callok21 : CallOK Tryd.prog 21 := ⟨_, Tryd.func21, rfl, rfl⟩
theorem callok22 : CallOK Tryd.prog 22 := ⟨_, Tryd.func22, rfl, rfl⟩
theorem callok28 : CallOK Tryd.prog 28 := ⟨_, Tryd.func28, rfl, rfl⟩
theorem callok48 : CallOK Tryd.prog 48 := ⟨_, Tryd.func48, rfl, rfl⟩
theorem callok49 : CallOK Tryd.prog 49 := ⟨_, Tryd.func49, rfl, rfl⟩
theorem callok50 : CallOK Tryd.prog 50 := ⟨_, Tryd.func50, rfl, rfl⟩
theorem callok51 : CallOK Tryd.prog 51 := ⟨_, Tryd.func51, rfl, rfl⟩
theorem callok52 : CallOK Tryd.prog 52 := ⟨_, Tryd.func52, rfl, rfl⟩
theorem callok58 : CallOK Tryd.prog 58 := ⟨_, Tryd.func58, rfl, rfl⟩
theorem callok60 : CallOK Tryd.prog 60 := ⟨_, Tryd.func60, rfl, rfl⟩
theorem callok61 : CallOK Tryd.prog 61 := ⟨_, Tryd.func61, rfl, rfl⟩
theorem callok62 : CallOK Tryd.prog 62 := ⟨_, Tryd.func62, rfl, rfl⟩
theorem callok63 : CallOK Tryd.prog 63 := ⟨_, Tryd.func63, rfl, rfl⟩
theorem callok64 : CallOK Tryd.prog 64 := ⟨_, Tryd.func64, rfl, rfl⟩
theorem callok66 : CallOK Tryd.prog 66 := ⟨_, Tryd.func66, rfl, rfl⟩
theorem callok69 : CallOK Tryd.prog 69 := ⟨_, Tryd.func69, rfl, rfl⟩
theorem callok83 : CallOK Tryd.prog 83 := ⟨_, Tryd.func83, rfl, rfl⟩
theorem callok84 : CallOK Tryd.prog 84 := ⟨_, Tryd.func84, rfl, rfl⟩
theorem callok88 : CallOK Tryd.prog 88 := ⟨_, Tryd.func88, rfl, rfl⟩
theorem callok89 : CallOK Tryd.prog 89 := ⟨_, Tryd.func89, rfl, rfl⟩
theorem callok91 : CallOK Tryd.prog 91 := ⟨_, Tryd.func91, rfl, rfl⟩
theorem callok92 : CallOK Tryd.prog 92 := ⟨_, Tryd.func92, rfl, rfl⟩
theorem callok93 : CallOK Tryd.prog 93 := ⟨_, Tryd.func93, rfl, rfl⟩
theorem callok95 : CallOK Tryd.prog 95 := ⟨_, Tryd.func95, rfl, rfl⟩
theorem callok96 : CallOK Tryd.prog 96 := ⟨_, Tryd.func96, rfl, rfl⟩
theorem callok97 : CallOK Tryd.prog 97 := ⟨_, Tryd.func97, rfl, rfl⟩
theorem callok98 : CallOK Tryd.prog 98 := ⟨_, Tryd.func98, rfl, rfl⟩
theorem callok99 : CallOK Tryd.prog 99 := ⟨_, Tryd.func99, rfl, rfl⟩
theorem callok100 : CallOK Tryd.prog 100 := ⟨_, Tryd.func100, rfl, rfl⟩
theorem callok104 : CallOK Tryd.prog 104 := ⟨_, Tryd.func104, rfl, rfl⟩
theorem callok110 : CallOK Tryd.prog 110 := ⟨_, Tryd.func110, rfl, rfl⟩

end Go.Proofs.YtiiimifniobfhaaDoor.Zk
