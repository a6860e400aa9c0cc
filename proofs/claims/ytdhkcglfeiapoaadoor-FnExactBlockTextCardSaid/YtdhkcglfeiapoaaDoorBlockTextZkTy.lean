/- The data of the program, its types' facts. No condition. -/
import Derived.Test.YtdhkcglfeiapoaaDoorProg
import Derived.Test.YtdhkcglfeiapoaaDoorZkS
namespace Go.Proofs.YtdhkcglfeiapoaaDoor.Zk
open Go Go.RowKit Go.IntWalk Go.Proofs
set_option linter.unusedVariables false
set_option linter.unusedSimpArgs false
set_option maxRecDepth 100000
theorem one1 {P : Value → Prop} {a : Value} (h : P a) : ∀ u ∈ [a], P u := by intro u hu; cases hu with | head => exact h | tail _ h => cases h
theorem onesC {a : Value} {l : List Value} (h : a.oneCell' = true) (hl : ∀ u ∈ l, u.oneCell' = true) : ∀ u ∈ a :: l, u.oneCell' = true := by intro u hu; cases hu with | head => exact h | tail _ h => exact hl u h
theorem onesN : ∀ u ∈ ([] : List Value), u.oneCell' = true := by intro u hu; cases hu
abbrev kInt : Kd Int := Kd.plain 1 (fun x => [.int .i64 x]) (fun _ => rfl) (fun _ => onesC rfl onesN)
abbrev kU8 : Kd Int := Kd.plain 1 (fun x => [.int .u8 x]) (fun _ => rfl) (fun _ => onesC rfl onesN)
abbrev kStr : Kd ByteArray := Kd.plain 1 (fun x => [.string x]) (fun _ => rfl) (fun _ => onesC rfl onesN)
abbrev kBool : Kd Bool := Kd.plain 1 (fun x => [.bool x]) (fun _ => rfl) (fun _ => onesC rfl onesN)
structure Block where
  fPrev : Int
  fHeight : Int
  fMiner : Int
  fTxs : List Int
instance : Inhabited Block := ⟨⟨default, default, default, default⟩⟩
structure TextResult where
  fCode : Int
  fText : ByteArray
instance : Inhabited TextResult := ⟨⟨default, default⟩⟩
abbrev kTextResult : Kd TextResult := Kd.plain 2 (fun x => [.int .i64 x.fCode, .string x.fText]) (fun _ => rfl) (fun _ => (onesC rfl (onesC rfl onesN)))
theorem tsz2 : tsz Tryd.prog 2 = some 1 := by kernel_rfl
theorem tby2 : tby Tryd.prog 2 = some 8 := by kernel_rfl
theorem tz2 : tzero Tryd.prog 2 = some (.int .i64 0) := by kernel_rfl
theorem tsz3 : tsz Tryd.prog 3 = some 1 := by kernel_rfl
theorem tby3 : tby Tryd.prog 3 = some 8 := by kernel_rfl
theorem tz3 : tzero Tryd.prog 3 = some (.int .i64 0) := by kernel_rfl
theorem tsz4 : tsz Tryd.prog 4 = some 1 := by kernel_rfl
theorem tby4 : tby Tryd.prog 4 = some 1 := by kernel_rfl
theorem tz4 : tzero Tryd.prog 4 = some (.bool false) := by kernel_rfl
theorem tsz5 : tsz Tryd.prog 5 = some 1 := by kernel_rfl
theorem tby5 : tby Tryd.prog 5 = some 1 := by kernel_rfl
theorem tz5 : tzero Tryd.prog 5 = some (.int .u8 0) := by kernel_rfl
theorem tsz9 : tsz Tryd.prog 9 = some 1 := by kernel_rfl
theorem tby9 : tby Tryd.prog 9 = some 16 := by kernel_rfl
theorem tz9 : tzero Tryd.prog 9 = some (.string ⟨#[]⟩) := by kernel_rfl
theorem tsz22 : tsz Tryd.prog 22 = some 1 := by kernel_rfl
theorem tby22 : tby Tryd.prog 22 = some 24 := by kernel_rfl
theorem tz22 : tzero Tryd.prog 22 = some (.slice none 0 0) := by kernel_rfl
theorem tsz27 : tsz Tryd.prog 27 = some 2 := by kernel_rfl
theorem tby27 : tby Tryd.prog 27 = some 24 := by kernel_rfl
theorem tz27 : tzero Tryd.prog 27 = some (.agg #[(.int .i64 0), (.string ⟨#[]⟩)]) := by kernel_rfl
theorem tsz35 : tsz Tryd.prog 35 = some 4 := by kernel_rfl
theorem tby35 : tby Tryd.prog 35 = some 48 := by kernel_rfl
theorem tz35 : tzero Tryd.prog 35 = some (.agg #[(.int .i64 0), (.int .i64 0), (.int .i64 0), (.slice none 0 0)]) := by kernel_rfl
theorem tsz38 : tsz Tryd.prog 38 = some 4 := by kernel_rfl
theorem tby38 : tby Tryd.prog 38 = some 48 := by kernel_rfl
theorem tz38 : tzero Tryd.prog 38 = some (.agg #[(.int .i64 0), (.int .i64 0), (.int .i64 0), (.slice none 0 0)]) := by kernel_rfl
theorem tsz51 : tsz Tryd.prog 51 = some 1 := by kernel_rfl
theorem tsz61 : tsz Tryd.prog 61 = some 1 := by kernel_rfl
theorem tby61 : tby Tryd.prog 61 = some 24 := by kernel_rfl
theorem tz61 : tzero Tryd.prog 61 = some (.slice none 0 0) := by kernel_rfl
theorem tsz64 : tsz Tryd.prog 64 = some 1 := by kernel_rfl
theorem tby64 : tby Tryd.prog 64 = some 24 := by kernel_rfl
theorem tz64 : tzero Tryd.prog 64 = some (.slice none 0 0) := by kernel_rfl
theorem mixed : Tryd.prog.follows .mixedOrders = true := by kernel_rfl
theorem callok9 : CallOK Tryd.prog 9 := ⟨_, Tryd.func9, rfl, rfl⟩
theorem callok11 : CallOK Tryd.prog 11 := ⟨_, Tryd.func11, rfl, rfl⟩
theorem callok12 : CallOK Tryd.prog 12 := ⟨_, Tryd.func12, rfl, rfl⟩
theorem callok13 : CallOK Tryd.prog 13 := ⟨_, Tryd.func13, rfl, rfl⟩
theorem callok14 : CallOK Tryd.prog 14 := ⟨_, Tryd.func14, rfl, rfl⟩
theorem callok15 : CallOK Tryd.prog 15 := ⟨_, Tryd.func15, rfl, rfl⟩
theorem callok16 : CallOK Tryd.prog 16 := ⟨_, Tryd.func16, rfl, rfl⟩
theorem callok19 : CallOK Tryd.prog 19 := ⟨_, Tryd.func19, rfl, rfl⟩
theorem callok22 : CallOK Tryd.prog 22 := ⟨_, Tryd.func22, rfl, rfl⟩
theorem callok23 : CallOK Tryd.prog 23 := ⟨_, Tryd.func23, rfl, rfl⟩
theorem callok24 : CallOK Tryd.prog 24 := ⟨_, Tryd.func24, rfl, rfl⟩
theorem callok25 : CallOK Tryd.prog 25 := ⟨_, Tryd.func25, rfl, rfl⟩
theorem callok26 : CallOK Tryd.prog 26 := ⟨_, Tryd.func26, rfl, rfl⟩
theorem callok27 : CallOK Tryd.prog 27 := ⟨_, Tryd.func27, rfl, rfl⟩
theorem callok28 : CallOK Tryd.prog 28 := ⟨_, Tryd.func28, rfl, rfl⟩
theorem callok30 : CallOK Tryd.prog 30 := ⟨_, Tryd.func30, rfl, rfl⟩
theorem callok31 : CallOK Tryd.prog 31 := ⟨_, Tryd.func31, rfl, rfl⟩
theorem callok35 : CallOK Tryd.prog 35 := ⟨_, Tryd.func35, rfl, rfl⟩
theorem callok36 : CallOK Tryd.prog 36 := ⟨_, Tryd.func36, rfl, rfl⟩
theorem callok37 : CallOK Tryd.prog 37 := ⟨_, Tryd.func37, rfl, rfl⟩
theorem callok38 : CallOK Tryd.prog 38 := ⟨_, Tryd.func38, rfl, rfl⟩
theorem callok39 : CallOK Tryd.prog 39 := ⟨_, Tryd.func39, rfl, rfl⟩
theorem callok40 : CallOK Tryd.prog 40 := ⟨_, Tryd.func40, rfl, rfl⟩
theorem callok43 : CallOK Tryd.prog 43 := ⟨_, Tryd.func43, rfl, rfl⟩
theorem callok44 : CallOK Tryd.prog 44 := ⟨_, Tryd.func44, rfl, rfl⟩
theorem callok45 : CallOK Tryd.prog 45 := ⟨_, Tryd.func45, rfl, rfl⟩

end Go.Proofs.YtdhkcglfeiapoaaDoor.Zk
