/- The data of the program, its types' facts. No condition. -/
import Derived.Test.YtigojhglkilodaaProg
import Derived.Test.YtigojhglkilodaaZkX
namespace Go.Proofs.Ytigojhglkilodaa.Zk
open Go Go.RowKit Go.IntWalk Go.Proofs
set_option linter.unusedVariables false
set_option linter.unusedSimpArgs false
set_option maxRecDepth 100000
theorem one1 {P : Value → Prop} {a : Value} (h : P a) : ∀ u ∈ [a], P u := by intro u hu; cases hu with | head => exact h | tail _ h => cases h
theorem onesC {a : Value} {l : List Value} (h : a.oneCell' = true) (hl : ∀ u ∈ l, u.oneCell' = true) : ∀ u ∈ a :: l, u.oneCell' = true := by intro u hu; cases hu with | head => exact h | tail _ h => exact hl u h
theorem onesN : ∀ u ∈ ([] : List Value), u.oneCell' = true := by intro u hu; cases hu
abbrev kInt : Kd Int := Kd.plain 1 (fun x => [.int .i64 x]) (fun _ => rfl) (fun _ => onesC rfl onesN)
abbrev kU8 : Kd Int := Kd.plain 1 (fun x => [.int .u8 x]) (fun _ => rfl) (fun _ => onesC rfl onesN)
abbrev kStr : Kd ByteArray := Kd.plain 1 (fun x => [.string x]) (fun _ => rfl) (fun _ => onesC rfl onesN)
abbrev kBool : Kd Bool := Kd.plain 1 (fun x => [.bool x]) (fun _ => rfl) (fun _ => onesC rfl onesN)
structure Sign where
  fKey : Int
  fId : Int
instance : Inhabited Sign := ⟨⟨default, default⟩⟩
abbrev kSign : Kd Sign := Kd.plain 2 (fun x => [.int .i64 x.fKey, .int .i64 x.fId]) (fun _ => rfl) (fun _ => (onesC rfl (onesC rfl onesN)))
structure Ledger where
  fTexts : List ByteArray
  fSigns : List Sign
instance : Inhabited Ledger := ⟨⟨default, default⟩⟩
structure LedgerResult where
  fCode : Int
  fId : Int
  fLedger : Ledger
instance : Inhabited LedgerResult := ⟨⟨default, default, default⟩⟩
theorem tsz2 : tsz Try.prog 2 = some 1 := by kernel_rfl
theorem tby2 : tby Try.prog 2 = some 8 := by kernel_rfl
theorem tz2 : tzero Try.prog 2 = some (.int .i64 0) := by kernel_rfl
theorem tsz3 : tsz Try.prog 3 = some 1 := by kernel_rfl
theorem tby3 : tby Try.prog 3 = some 8 := by kernel_rfl
theorem tz3 : tzero Try.prog 3 = some (.int .i64 0) := by kernel_rfl
theorem tsz4 : tsz Try.prog 4 = some 1 := by kernel_rfl
theorem tby4 : tby Try.prog 4 = some 1 := by kernel_rfl
theorem tz4 : tzero Try.prog 4 = some (.bool false) := by kernel_rfl
theorem tsz5 : tsz Try.prog 5 = some 1 := by kernel_rfl
theorem tby5 : tby Try.prog 5 = some 1 := by kernel_rfl
theorem tz5 : tzero Try.prog 5 = some (.int .u8 0) := by kernel_rfl
theorem tsz9 : tsz Try.prog 9 = some 1 := by kernel_rfl
theorem tby9 : tby Try.prog 9 = some 16 := by kernel_rfl
theorem tz9 : tzero Try.prog 9 = some (.string ⟨#[]⟩) := by kernel_rfl
theorem tsz22 : tsz Try.prog 22 = some 1 := by kernel_rfl
theorem tby22 : tby Try.prog 22 = some 24 := by kernel_rfl
theorem tz22 : tzero Try.prog 22 = some (.slice none 0 0) := by kernel_rfl
theorem tsz23 : tsz Try.prog 23 = some 1 := by kernel_rfl
theorem tby23 : tby Try.prog 23 = some 24 := by kernel_rfl
theorem tz23 : tzero Try.prog 23 = some (.slice none 0 0) := by kernel_rfl
theorem tsz25 : tsz Try.prog 25 = some 2 := by kernel_rfl
theorem tby25 : tby Try.prog 25 = some 48 := by kernel_rfl
theorem tz25 : tzero Try.prog 25 = some (.agg #[(.slice none 0 0), (.slice none 0 0)]) := by kernel_rfl
theorem tsz27 : tsz Try.prog 27 = some 1 := by kernel_rfl
theorem tby27 : tby Try.prog 27 = some 24 := by kernel_rfl
theorem tz27 : tzero Try.prog 27 = some (.slice none 0 0) := by kernel_rfl
theorem tsz29 : tsz Try.prog 29 = some 2 := by kernel_rfl
theorem tby29 : tby Try.prog 29 = some 48 := by kernel_rfl
theorem tz29 : tzero Try.prog 29 = some (.agg #[(.slice none 0 0), (.slice none 0 0)]) := by kernel_rfl
theorem tsz31 : tsz Try.prog 31 = some 4 := by kernel_rfl
theorem tby31 : tby Try.prog 31 = some 64 := by kernel_rfl
theorem tz31 : tzero Try.prog 31 = some (.agg #[(.int .i64 0), (.int .i64 0), (.slice none 0 0), (.slice none 0 0)]) := by kernel_rfl
theorem tsz99 : tsz Try.prog 99 = some 1 := by kernel_rfl
theorem tsz161 : tsz Try.prog 161 = some 2 := by kernel_rfl
theorem tby161 : tby Try.prog 161 = some 16 := by kernel_rfl
theorem tz161 : tzero Try.prog 161 = some (.agg #[(.int .i64 0), (.int .i64 0)]) := by kernel_rfl
theorem tsz164 : tsz Try.prog 164 = some 2 := by kernel_rfl
theorem tby164 : tby Try.prog 164 = some 16 := by kernel_rfl
theorem tz164 : tzero Try.prog 164 = some (.agg #[(.int .i64 0), (.int .i64 0)]) := by kernel_rfl
theorem tsz198 : tsz Try.prog 198 = some 1 := by kernel_rfl
theorem tby198 : tby Try.prog 198 = some 24 := by kernel_rfl
theorem tz198 : tzero Try.prog 198 = some (.slice none 0 0) := by kernel_rfl
theorem mixed : Try.prog.follows .mixedOrders = true := by kernel_rfl
theorem callok9 : CallOK Try.prog 9 := ⟨_, Try.func9, rfl, rfl⟩
theorem callok10 : CallOK Try.prog 10 := ⟨_, Try.func10, rfl, rfl⟩
theorem callok11 : CallOK Try.prog 11 := ⟨_, Try.func11, rfl, rfl⟩
theorem callok12 : CallOK Try.prog 12 := ⟨_, Try.func12, rfl, rfl⟩
theorem callok13 : CallOK Try.prog 13 := ⟨_, Try.func13, rfl, rfl⟩
theorem callok14 : CallOK Try.prog 14 := ⟨_, Try.func14, rfl, rfl⟩
theorem callok15 : CallOK Try.prog 15 := ⟨_, Try.func15, rfl, rfl⟩
theorem callok16 : CallOK Try.prog 16 := ⟨_, Try.func16, rfl, rfl⟩
theorem callok17 : CallOK Try.prog 17 := ⟨_, Try.func17, rfl, rfl⟩
theorem callok56 : CallOK Try.prog 56 := ⟨_, Try.func56, rfl, rfl⟩
theorem callok57 : CallOK Try.prog 57 := ⟨_, Try.func57, rfl, rfl⟩
theorem callok58 : CallOK Try.prog 58 := ⟨_, Try.func58, rfl, rfl⟩
theorem callok59 : CallOK Try.prog 59 := ⟨_, Try.func59, rfl, rfl⟩
theorem callok60 : CallOK Try.prog 60 := ⟨_, Try.func60, rfl, rfl⟩
theorem callok61 : CallOK Try.prog 61 := ⟨_, Try.func61, rfl, rfl⟩
theorem callok62 : CallOK Try.prog 62 := ⟨_, Try.func62, rfl, rfl⟩
theorem callok63 : CallOK Try.prog 63 := ⟨_, Try.func63, rfl, rfl⟩
theorem callok64 : CallOK Try.prog 64 := ⟨_, Try.func64, rfl, rfl⟩
theorem callok65 : CallOK Try.prog 65 := ⟨_, Try.func65, rfl, rfl⟩
theorem callok66 : CallOK Try.prog 66 := ⟨_, Try.func66, rfl, rfl⟩
theorem callok67 : CallOK Try.prog 67 := ⟨_, Try.func67, rfl, rfl⟩
theorem callok68 : CallOK Try.prog 68 := ⟨_, Try.func68, rfl, rfl⟩
theorem callok69 : CallOK Try.prog 69 := ⟨_, Try.func69, rfl, rfl⟩
theorem callok70 : CallOK Try.prog 70 := ⟨_, Try.func70, rfl, rfl⟩
theorem callok71 : CallOK Try.prog 71 := ⟨_, Try.func71, rfl, rfl⟩
theorem callok88 : CallOK Try.prog 88 := ⟨_, Try.func88, rfl, rfl⟩
theorem callok107 : CallOK Try.prog 107 := ⟨_, Try.func107, rfl, rfl⟩
theorem callok108 : CallOK Try.prog 108 := ⟨_, Try.func108, rfl, rfl⟩
theorem callok109 : CallOK Try.prog 109 := ⟨_, Try.func109, rfl, rfl⟩
theorem callok110 : CallOK Try.prog 110 := ⟨_, Try.func110, rfl, rfl⟩
theorem callok111 : CallOK Try.prog 111 := ⟨_, Try.func111, rfl, rfl⟩
theorem callok112 : CallOK Try.prog 112 := ⟨_, Try.func112, rfl, rfl⟩
theorem callok113 : CallOK Try.prog 113 := ⟨_, Try.func113, rfl, rfl⟩
theorem callok114 : CallOK Try.prog 114 := ⟨_, Try.func114, rfl, rfl⟩
theorem callok115 : CallOK Try.prog 115 := ⟨_, Try.func115, rfl, rfl⟩
theorem callok116 : CallOK Try.prog 116 := ⟨_, Try.func116, rfl, rfl⟩
theorem callok117 : CallOK Try.prog 117 := ⟨_, Try.func117, rfl, rfl⟩
theorem callok118 : CallOK Try.prog 118 := ⟨_, Try.func118, rfl, rfl⟩
theorem callok119 : CallOK Try.prog 119 := ⟨_, Try.func119, rfl, rfl⟩
theorem callok120 : CallOK Try.prog 120 := ⟨_, Try.func120, rfl, rfl⟩
theorem callok158 : CallOK Try.prog 158 := ⟨_, Try.func158, rfl, rfl⟩
theorem eqs161 (w : World) (a0 : Int) (a1 : Int) (b0 : Int) (b1 : Int) : (Op.equalIn 10000 161 (.agg #[.int .i64 a0, .int .i64 a1]) (.agg #[.int .i64 b0, .int .i64 b1])).run Try.prog w = .ok ((a0 == b0) && (a1 == b1)) w :=
  ((eqA Try.underlying161 (by kernel_rfl) (eqF_more rfl (part1 Try.underlying2 rfl rfl) (part1 Try.underlying2 rfl rfl) (run_equalIn_int _ _ _ _ _ _ _ Try.underlying2) (eqF_one rfl (part1 Try.underlying2 rfl rfl) (part1 Try.underlying2 rfl rfl) (run_equalIn_int _ _ _ _ _ _ _ Try.underlying2)))) : (Op.equalIn (9998 + 2) 161 (.agg #[.int .i64 a0, .int .i64 a1]) (.agg #[.int .i64 b0, .int .i64 b1])).run Try.prog w = .ok ((a0 == b0) && (a1 == b1)) w)
end Go.Proofs.Ytigojhglkilodaa.Zk
