/- The data of the program, its types' facts. No condition. -/
import Derived.Test.YtcpacdbdehphkaaDoorProg
import Derived.Test.YtcpacdbdehphkaaDoorZkP
namespace Go.Proofs.YtcpacdbdehphkaaDoor.Zk
open Go Go.RowKit Go.IntWalk Go.Proofs
set_option linter.unusedVariables false
set_option linter.unusedSimpArgs false
set_option maxRecDepth 100000
theorem one1 {P : Value → Prop} {a : Value} (h : P a) : ∀ u ∈ [a], P u := by intro u hu; cases hu with | head => exact h | tail _ h => cases h
theorem onesC {a : Value} {l : List Value} (h : a.oneCell' = true) (hl : ∀ u ∈ l, u.oneCell' = true) : ∀ u ∈ a :: l, u.oneCell' = true := by intro u hu; cases hu with | head => exact h | tail _ h => exact hl u h
theorem onesN : ∀ u ∈ ([] : List Value), u.oneCell' = true := by intro u hu; cases hu
abbrev kInt : Kd Int := Kd.plain 1 (fun x => [.int .i64 x]) (fun _ => rfl) (fun _ => onesC rfl onesN)
abbrev kU8 : Kd Int := Kd.plain 1 (fun x => [.int .u8 x]) (fun _ => rfl) (fun _ => onesC rfl onesN)
abbrev kStr : Kd ByteArray := Kd.plain 1 (fun x => [.string x]) (fun _ => rfl) (fun _ => onesC rfl onesN)
abbrev kBool : Kd Bool := Kd.plain 1 (fun x => [.bool x]) (fun _ => rfl) (fun _ => onesC rfl onesN)
structure l1Src where
  fCode : List Int
  fAt : Int
instance : Inhabited l1Src := ⟨⟨default, default⟩⟩
structure Block where
  fPrev : Int
  fHeight : Int
  fMiner : Int
  fTxs : List Int
instance : Inhabited Block := ⟨⟨default, default, default, default⟩⟩
structure BlockResult where
  fCode : Int
  fBlock : Block
instance : Inhabited BlockResult := ⟨⟨default, default⟩⟩
structure TextResult where
  fCode : Int
  fText : ByteArray
instance : Inhabited TextResult := ⟨⟨default, default⟩⟩
abbrev kTextResult : Kd TextResult := Kd.plain 2 (fun x => [.int .i64 x.fCode, .string x.fText]) (fun _ => rfl) (fun _ => (onesC rfl (onesC rfl onesN)))
structure IntResult where
  fCode : Int
  fValue : Int
instance : Inhabited IntResult := ⟨⟨default, default⟩⟩
abbrev kIntResult : Kd IntResult := Kd.plain 2 (fun x => [.int .i64 x.fCode, .int .i64 x.fValue]) (fun _ => rfl) (fun _ => (onesC rfl (onesC rfl onesN)))
theorem tsz2 : tsz Tryd.prog 2 = some 1 := by kernel_rfl
theorem tby2 : tby Tryd.prog 2 = some 8 := by kernel_rfl
theorem tz2 : tzero Tryd.prog 2 = some (.int .i64 0) := by kernel_rfl
theorem tsz3 : tsz Tryd.prog 3 = some 1 := by kernel_rfl
theorem tby3 : tby Tryd.prog 3 = some 8 := by kernel_rfl
theorem tz3 : tzero Tryd.prog 3 = some (.int .i64 0) := by kernel_rfl
theorem tsz4 : tsz Tryd.prog 4 = some 1 := by kernel_rfl
theorem tby4 : tby Tryd.prog 4 = some 1 := by kernel_rfl
theorem tz4 : tzero Tryd.prog 4 = some (.bool false) := by kernel_rfl
theorem tsz5 : tsz Tryd.prog 5 = some 1 := by kernel_rfl
theorem tby5 : tby Tryd.prog 5 = some 1 := by kernel_rfl
theorem tz5 : tzero Tryd.prog 5 = some (.int .u8 0) := by kernel_rfl
theorem tsz9 : tsz Tryd.prog 9 = some 1 := by kernel_rfl
theorem tby9 : tby Tryd.prog 9 = some 16 := by kernel_rfl
theorem tz9 : tzero Tryd.prog 9 = some (.string ⟨#[]⟩) := by kernel_rfl
theorem tsz28 : tsz Tryd.prog 28 = some 2 := by kernel_rfl
theorem tby28 : tby Tryd.prog 28 = some 24 := by kernel_rfl
theorem tz28 : tzero Tryd.prog 28 = some (.agg #[(.int .i64 0), (.string ⟨#[]⟩)]) := by kernel_rfl
theorem tsz38 : tsz Tryd.prog 38 = some 1 := by kernel_rfl
theorem tby38 : tby Tryd.prog 38 = some 24 := by kernel_rfl
theorem tz38 : tzero Tryd.prog 38 = some (.slice none 0 0) := by kernel_rfl
theorem tsz47 : tsz Tryd.prog 47 = some 1 := by kernel_rfl
theorem tby47 : tby Tryd.prog 47 = some 24 := by kernel_rfl
theorem tz47 : tzero Tryd.prog 47 = some (.slice none 0 0) := by kernel_rfl
theorem tsz51 : tsz Tryd.prog 51 = some 4 := by kernel_rfl
theorem tby51 : tby Tryd.prog 51 = some 48 := by kernel_rfl
theorem tz51 : tzero Tryd.prog 51 = some (.agg #[(.int .i64 0), (.int .i64 0), (.int .i64 0), (.slice none 0 0)]) := by kernel_rfl
theorem tsz53 : tsz Tryd.prog 53 = some 5 := by kernel_rfl
theorem tby53 : tby Tryd.prog 53 = some 56 := by kernel_rfl
theorem tz53 : tzero Tryd.prog 53 = some (.agg #[(.int .i64 0), (.int .i64 0), (.int .i64 0), (.int .i64 0), (.slice none 0 0)]) := by kernel_rfl
theorem tsz60 : tsz Tryd.prog 60 = some 2 := by kernel_rfl
theorem tby60 : tby Tryd.prog 60 = some 16 := by kernel_rfl
theorem tz60 : tzero Tryd.prog 60 = some (.agg #[(.int .i64 0), (.int .i64 0)]) := by kernel_rfl
theorem tsz80 : tsz Tryd.prog 80 = some 1 := by kernel_rfl
theorem tsz84 : tsz Tryd.prog 84 = some 1 := by kernel_rfl
theorem tsz103 : tsz Tryd.prog 103 = some 1 := by kernel_rfl
theorem tby103 : tby Tryd.prog 103 = some 24 := by kernel_rfl
theorem tz103 : tzero Tryd.prog 103 = some (.slice none 0 0) := by kernel_rfl
theorem tsz130 : tsz Tryd.prog 130 = some 2 := by kernel_rfl
theorem tby130 : tby Tryd.prog 130 = some 32 := by kernel_rfl
theorem tz130 : tzero Tryd.prog 130 = some (.agg #[(.slice none 0 0), (.int .i64 0)]) := by kernel_rfl
theorem tsz133 : tsz Tryd.prog 133 = some 1 := by kernel_rfl
theorem tby133 : tby Tryd.prog 133 = some 8 := by kernel_rfl
theorem tz133 : tzero Tryd.prog 133 = some (.int .u64 0) := by kernel_rfl
theorem tsz143 : tsz Tryd.prog 143 = some 1 := by kernel_rfl
theorem mixed : Tryd.prog.follows .mixedOrders = true := by kernel_rfl
theorem callok17 : CallOK Tryd.prog 17 := ⟨_, Tryd.func17, rfl, rfl⟩
theorem callok18 : CallOK Tryd.prog 18 := ⟨_, Tryd.func18, rfl, rfl⟩
theorem callok19 : CallOK Tryd.prog 19 := ⟨_, Tryd.func19, rfl, rfl⟩
theorem callok20 : CallOK Tryd.prog 20 := ⟨_, Tryd.func20, rfl, rfl⟩
theorem callok21 : CallOK Tryd.prog 21 := ⟨_, Tryd.func21, rfl, rfl⟩
theorem callok22 : CallOK Tryd.prog 22 := ⟨_, Tryd.func22, rfl, rfl⟩
theorem callok23 : CallOK Tryd.prog 23 := ⟨_, Tryd.func23, rfl, rfl⟩
theorem callok24 : CallOK Tryd.prog 24 := ⟨_, Tryd.func24, rfl, rfl⟩
theorem callok25 : CallOK Tryd.prog 25 := ⟨_, Tryd.func25, rfl, rfl⟩
theorem callok26 : CallOK Tryd.prog 26 := ⟨_, Tryd.func26, rfl, rfl⟩
theorem callok27 : CallOK Tryd.prog 27 := ⟨_, Tryd.func27, rfl, rfl⟩
theorem callok28 : CallOK Tryd.prog 28 := ⟨_, Tryd.func28, rfl, rfl⟩
theorem callok44 : CallOK Tryd.prog 44 := ⟨_, Tryd.func44, rfl, rfl⟩
theorem callok45 : CallOK Tryd.prog 45 := ⟨_, Tryd.func45, rfl, rfl⟩
theorem callok46 : CallOK Tryd.prog 46 := ⟨_, Tryd.func46, rfl, rfl⟩
theorem callok47 : CallOK Tryd.prog 47 := ⟨_, Tryd.func47, rfl, rfl⟩
theorem callok48 : CallOK Tryd.prog 48 := ⟨_, Tryd.func48, rfl, rfl⟩
theorem callok49 : CallOK Tryd.prog 49 := ⟨_, Tryd.func49, rfl, rfl⟩
theorem callok50 : CallOK Tryd.prog 50 := ⟨_, Tryd.func50, rfl, rfl⟩
theorem callok51 : CallOK Tryd.prog 51 := ⟨_, Tryd.func51, rfl, rfl⟩
theorem callok52 : CallOK Tryd.prog 52 := ⟨_, Tryd.func52, rfl, rfl⟩
theorem callok53 : CallOK Tryd.prog 53 := ⟨_, Tryd.func53, rfl, rfl⟩
theorem callok54 : CallOK Tryd.prog 54 := ⟨_, Tryd.func54, rfl, rfl⟩
theorem callok55 : CallOK Tryd.prog 55 := ⟨_, Tryd.func55, rfl, rfl⟩
theorem callok56 : CallOK Tryd.prog 56 := ⟨_, Tryd.func56, rfl, rfl⟩
theorem callok57 : CallOK Tryd.prog 57 := ⟨_, Tryd.func57, rfl, rfl⟩
theorem callok58 : CallOK Tryd.prog 58 := ⟨_, Tryd.func58, rfl, rfl⟩
theorem callok59 : CallOK Tryd.prog 59 := ⟨_, Tryd.func59, rfl, rfl⟩
theorem callok60 : CallOK Tryd.prog 60 := ⟨_, Tryd.func60, rfl, rfl⟩
theorem callok62 : CallOK Tryd.prog 62 := ⟨_, Tryd.func62, rfl, rfl⟩
theorem callok66 : CallOK Tryd.prog 66 := ⟨_, Tryd.func66, rfl, rfl⟩
theorem callok76 : CallOK Tryd.prog 76 := ⟨_, Tryd.func76, rfl, rfl⟩
theorem callok77 : CallOK Tryd.prog 77 := ⟨_, Tryd.func77, rfl, rfl⟩
theorem callok81 : CallOK Tryd.prog 81 := ⟨_, Tryd.func81, rfl, rfl⟩
theorem callok82 : CallOK Tryd.prog 82 := ⟨_, Tryd.func82, rfl, rfl⟩
theorem callok84 : CallOK Tryd.prog 84 := ⟨_, Tryd.func84, rfl, rfl⟩
theorem callok85 : CallOK Tryd.prog 85 := ⟨_, Tryd.func85, rfl, rfl⟩
theorem callok86 : CallOK Tryd.prog 86 := ⟨_, Tryd.func86, rfl, rfl⟩
theorem callok91 : CallOK Tryd.prog 91 := ⟨_, Tryd.func91, rfl, rfl⟩
theorem callok92 : CallOK Tryd.prog 92 := ⟨_, Tryd.func92, rfl, rfl⟩
theorem callok93 : CallOK Tryd.prog 93 := ⟨_, Tryd.func93, rfl, rfl⟩
theorem callok97 : CallOK Tryd.prog 97 := ⟨_, Tryd.func97, rfl, rfl⟩
theorem callok103 : CallOK Tryd.prog 103 := ⟨_, Tryd.func103, rfl, rfl⟩

end Go.Proofs.YtcpacdbdehphkaaDoor.Zk
