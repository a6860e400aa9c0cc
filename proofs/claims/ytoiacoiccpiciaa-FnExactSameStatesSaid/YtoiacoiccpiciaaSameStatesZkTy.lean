/- The data of the program, its types' facts. No condition. -/
import Derived.Test.YtoiacoiccpiciaaProg
import Derived.Test.YtoiacoiccpiciaaZk
namespace Go.Proofs.Ytoiacoiccpiciaa.Zk
open Go Go.RowKit Go.IntWalk Go.Proofs
set_option linter.unusedVariables false
set_option linter.unusedSimpArgs false
set_option maxRecDepth 100000
theorem one1 {P : Value → Prop} {a : Value} (h : P a) : ∀ u ∈ [a], P u := by intro u hu; cases hu with | head => exact h | tail _ h => cases h
theorem onesC {a : Value} {l : List Value} (h : a.oneCell' = true) (hl : ∀ u ∈ l, u.oneCell' = true) : ∀ u ∈ a :: l, u.oneCell' = true := by intro u hu; cases hu with | head => exact h | tail _ h => exact hl u h
theorem onesN : ∀ u ∈ ([] : List Value), u.oneCell' = true := by intro u hu; cases hu
abbrev kInt : Kd Int := Kd.plain 1 (fun x => [.int .i64 x]) (fun _ => rfl) (fun _ => onesC rfl onesN)
abbrev kU8 : Kd Int := Kd.plain 1 (fun x => [.int .u8 x]) (fun _ => rfl) (fun _ => onesC rfl onesN)
abbrev kStr : Kd ByteArray := Kd.plain 1 (fun x => [.string x]) (fun _ => rfl) (fun _ => onesC rfl onesN)
abbrev kBool : Kd Bool := Kd.plain 1 (fun x => [.bool x]) (fun _ => rfl) (fun _ => onesC rfl onesN)
structure Ref where
  fTx : Int
  fAt : Int
instance : Inhabited Ref := ⟨⟨default, default⟩⟩
abbrev kRef : Kd Ref := Kd.plain 2 (fun x => [.int .i64 x.fTx, .int .i64 x.fAt]) (fun _ => rfl) (fun _ => (onesC rfl (onesC rfl onesN)))
structure Rule where
  fKeys : List Int
  fNeed : Int
  fAfter : Int
instance : Inhabited Rule := ⟨⟨default, default, default⟩⟩
abbrev kRule : Kd Rule := Kd.with1 3 (fun x v => [v, .int .i64 x.fNeed, .int .i64 x.fAfter]) (fun x => x.fKeys) kInt 2 (fun _ _ => rfl) (fun _ _ _ _ => (onesC rfl (onesC rfl (onesC rfl onesN))))
structure Out where
  fValue : Int
  fRule : Rule
instance : Inhabited Out := ⟨⟨default, default⟩⟩
abbrev kOut : Kd Out := Kd.with1 4 (fun x v => [.int .i64 x.fValue, v, .int .i64 x.fRule.fNeed, .int .i64 x.fRule.fAfter]) (fun x => x.fRule.fKeys) kInt 2 (fun _ _ => rfl) (fun _ _ _ _ => (onesC rfl (onesC rfl (onesC rfl (onesC rfl onesN)))))
structure Coin where
  fRef : Ref
  fOut : Out
  fHeight : Int
  fMined : Bool
instance : Inhabited Coin := ⟨⟨default, default, default, default⟩⟩
abbrev kCoin : Kd Coin := Kd.with1 8 (fun x v => [.int .i64 x.fRef.fTx, .int .i64 x.fRef.fAt, .int .i64 x.fOut.fValue, v, .int .i64 x.fOut.fRule.fNeed, .int .i64 x.fOut.fRule.fAfter, .int .i64 x.fHeight, .bool x.fMined]) (fun x => x.fOut.fRule.fKeys) kInt 2 (fun _ _ => rfl) (fun _ _ _ _ => (onesC rfl (onesC rfl (onesC rfl (onesC rfl (onesC rfl (onesC rfl (onesC rfl (onesC rfl onesN)))))))))
structure Member where
  fKey : Int
  fRef : Ref
instance : Inhabited Member := ⟨⟨default, default⟩⟩
abbrev kMember : Kd Member := Kd.plain 3 (fun x => [.int .i64 x.fKey, .int .i64 x.fRef.fTx, .int .i64 x.fRef.fAt]) (fun _ => rfl) (fun _ => (onesC rfl (onesC rfl (onesC rfl onesN))))
structure State where
  fTip : Int
  fHeight : Int
  fCoins : List Coin
  fMembers : List Member
instance : Inhabited State := ⟨⟨default, default, default, default⟩⟩
theorem tsz2 : tsz Try.prog 2 = some 1 := by kernel_rfl
theorem tby2 : tby Try.prog 2 = some 8 := by kernel_rfl
theorem tz2 : tzero Try.prog 2 = some (.int .i64 0) := by kernel_rfl
theorem tsz3 : tsz Try.prog 3 = some 1 := by kernel_rfl
theorem tby3 : tby Try.prog 3 = some 8 := by kernel_rfl
theorem tz3 : tzero Try.prog 3 = some (.int .i64 0) := by kernel_rfl
theorem tsz4 : tsz Try.prog 4 = some 1 := by kernel_rfl
theorem tby4 : tby Try.prog 4 = some 1 := by kernel_rfl
theorem tz4 : tzero Try.prog 4 = some (.bool false) := by kernel_rfl
theorem tsz22 : tsz Try.prog 22 = some 1 := by kernel_rfl
theorem tby22 : tby Try.prog 22 = some 24 := by kernel_rfl
theorem tz22 : tzero Try.prog 22 = some (.slice none 0 0) := by kernel_rfl
theorem tsz25 : tsz Try.prog 25 = some 1 := by kernel_rfl
theorem tby25 : tby Try.prog 25 = some 24 := by kernel_rfl
theorem tz25 : tzero Try.prog 25 = some (.slice none 0 0) := by kernel_rfl
theorem tsz44 : tsz Try.prog 44 = some 1 := by kernel_rfl
theorem tby44 : tby Try.prog 44 = some 24 := by kernel_rfl
theorem tz44 : tzero Try.prog 44 = some (.slice none 0 0) := by kernel_rfl
theorem tsz46 : tsz Try.prog 46 = some 4 := by kernel_rfl
theorem tby46 : tby Try.prog 46 = some 64 := by kernel_rfl
theorem tz46 : tzero Try.prog 46 = some (.agg #[(.int .i64 0), (.int .i64 0), (.slice none 0 0), (.slice none 0 0)]) := by kernel_rfl
theorem tsz49 : tsz Try.prog 49 = some 1 := by kernel_rfl
theorem tby49 : tby Try.prog 49 = some 24 := by kernel_rfl
theorem tz49 : tzero Try.prog 49 = some (.slice none 0 0) := by kernel_rfl
theorem tsz51 : tsz Try.prog 51 = some 4 := by kernel_rfl
theorem tby51 : tby Try.prog 51 = some 64 := by kernel_rfl
theorem tz51 : tzero Try.prog 51 = some (.agg #[(.int .i64 0), (.int .i64 0), (.slice none 0 0), (.slice none 0 0)]) := by kernel_rfl
theorem tsz74 : tsz Try.prog 74 = some 1 := by kernel_rfl
theorem tby74 : tby Try.prog 74 = some 24 := by kernel_rfl
theorem tz74 : tzero Try.prog 74 = some (.slice none 0 0) := by kernel_rfl
theorem tsz92 : tsz Try.prog 92 = some 2 := by kernel_rfl
theorem tby92 : tby Try.prog 92 = some 16 := by kernel_rfl
theorem tz92 : tzero Try.prog 92 = some (.agg #[(.int .i64 0), (.int .i64 0)]) := by kernel_rfl
theorem tsz94 : tsz Try.prog 94 = some 3 := by kernel_rfl
theorem tby94 : tby Try.prog 94 = some 40 := by kernel_rfl
theorem tz94 : tzero Try.prog 94 = some (.agg #[(.slice none 0 0), (.int .i64 0), (.int .i64 0)]) := by kernel_rfl
theorem tsz96 : tsz Try.prog 96 = some 4 := by kernel_rfl
theorem tby96 : tby Try.prog 96 = some 48 := by kernel_rfl
theorem tz96 : tzero Try.prog 96 = some (.agg #[(.int .i64 0), (.slice none 0 0), (.int .i64 0), (.int .i64 0)]) := by kernel_rfl
theorem tsz98 : tsz Try.prog 98 = some 8 := by kernel_rfl
theorem tby98 : tby Try.prog 98 = some 80 := by kernel_rfl
theorem tz98 : tzero Try.prog 98 = some (.agg #[(.int .i64 0), (.int .i64 0), (.int .i64 0), (.slice none 0 0), (.int .i64 0), (.int .i64 0), (.int .i64 0), (.bool false)]) := by kernel_rfl
theorem tsz99 : tsz Try.prog 99 = some 2 := by kernel_rfl
theorem tby99 : tby Try.prog 99 = some 16 := by kernel_rfl
theorem tz99 : tzero Try.prog 99 = some (.agg #[(.int .i64 0), (.int .i64 0)]) := by kernel_rfl
theorem tsz100 : tsz Try.prog 100 = some 3 := by kernel_rfl
theorem tby100 : tby Try.prog 100 = some 40 := by kernel_rfl
theorem tz100 : tzero Try.prog 100 = some (.agg #[(.slice none 0 0), (.int .i64 0), (.int .i64 0)]) := by kernel_rfl
theorem tsz102 : tsz Try.prog 102 = some 4 := by kernel_rfl
theorem tby102 : tby Try.prog 102 = some 48 := by kernel_rfl
theorem tz102 : tzero Try.prog 102 = some (.agg #[(.int .i64 0), (.slice none 0 0), (.int .i64 0), (.int .i64 0)]) := by kernel_rfl
theorem tsz104 : tsz Try.prog 104 = some 8 := by kernel_rfl
theorem tby104 : tby Try.prog 104 = some 80 := by kernel_rfl
theorem tz104 : tzero Try.prog 104 = some (.agg #[(.int .i64 0), (.int .i64 0), (.int .i64 0), (.slice none 0 0), (.int .i64 0), (.int .i64 0), (.int .i64 0), (.bool false)]) := by kernel_rfl
theorem tsz128 : tsz Try.prog 128 = some 1 := by kernel_rfl
theorem tsz144 : tsz Try.prog 144 = some 3 := by kernel_rfl
theorem tby144 : tby Try.prog 144 = some 24 := by kernel_rfl
theorem tz144 : tzero Try.prog 144 = some (.agg #[(.int .i64 0), (.int .i64 0), (.int .i64 0)]) := by kernel_rfl
theorem tsz147 : tsz Try.prog 147 = some 3 := by kernel_rfl
theorem tby147 : tby Try.prog 147 = some 24 := by kernel_rfl
theorem tz147 : tzero Try.prog 147 = some (.agg #[(.int .i64 0), (.int .i64 0), (.int .i64 0)]) := by kernel_rfl
theorem tsz156 : tsz Try.prog 156 = some 1 := by kernel_rfl
theorem mixed : Try.prog.follows .mixedOrders = true := by kernel_rfl
theorem callok15 : CallOK Try.prog 15 := ⟨_, Try.func15, rfl, rfl⟩
theorem callok17 : CallOK Try.prog 17 := ⟨_, Try.func17, rfl, rfl⟩
theorem callok18 : CallOK Try.prog 18 := ⟨_, Try.func18, rfl, rfl⟩
theorem callok19 : CallOK Try.prog 19 := ⟨_, Try.func19, rfl, rfl⟩
theorem callok29 : CallOK Try.prog 29 := ⟨_, Try.func29, rfl, rfl⟩
theorem callok30 : CallOK Try.prog 30 := ⟨_, Try.func30, rfl, rfl⟩
theorem callok31 : CallOK Try.prog 31 := ⟨_, Try.func31, rfl, rfl⟩
theorem callok32 : CallOK Try.prog 32 := ⟨_, Try.func32, rfl, rfl⟩
theorem callok33 : CallOK Try.prog 33 := ⟨_, Try.func33, rfl, rfl⟩
theorem callok48 : CallOK Try.prog 48 := ⟨_, Try.func48, rfl, rfl⟩
theorem callok50 : CallOK Try.prog 50 := ⟨_, Try.func50, rfl, rfl⟩
theorem callok53 : CallOK Try.prog 53 := ⟨_, Try.func53, rfl, rfl⟩
theorem callok62 : CallOK Try.prog 62 := ⟨_, Try.func62, rfl, rfl⟩
theorem callok63 : CallOK Try.prog 63 := ⟨_, Try.func63, rfl, rfl⟩
theorem callok64 : CallOK Try.prog 64 := ⟨_, Try.func64, rfl, rfl⟩
theorem callok65 : CallOK Try.prog 65 := ⟨_, Try.func65, rfl, rfl⟩
theorem callok66 : CallOK Try.prog 66 := ⟨_, Try.func66, rfl, rfl⟩
theorem callok67 : CallOK Try.prog 67 := ⟨_, Try.func67, rfl, rfl⟩
theorem callok75 : CallOK Try.prog 75 := ⟨_, Try.func75, rfl, rfl⟩
theorem callok89 : CallOK Try.prog 89 := ⟨_, Try.func89, rfl, rfl⟩
theorem callok90 : CallOK Try.prog 90 := ⟨_, Try.func90, rfl, rfl⟩
theorem callok111 : CallOK Try.prog 111 := ⟨_, Try.func111, rfl, rfl⟩
theorem callok113 : CallOK Try.prog 113 := ⟨_, Try.func113, rfl, rfl⟩
theorem callok114 : CallOK Try.prog 114 := ⟨_, Try.func114, rfl, rfl⟩
theorem callok120 : CallOK Try.prog 120 := ⟨_, Try.func120, rfl, rfl⟩
theorem callok121 : CallOK Try.prog 121 := ⟨_, Try.func121, rfl, rfl⟩
theorem callok122 : CallOK Try.prog 122 := ⟨_, Try.func122, rfl, rfl⟩
theorem callok123 : CallOK Try.prog 123 := ⟨_, Try.func123, rfl, rfl⟩
theorem callok124 : CallOK Try.prog 124 := ⟨_, Try.func124, rfl, rfl⟩
theorem callok125 : CallOK Try.prog 125 := ⟨_, Try.func125, rfl, rfl⟩
theorem callok126 : CallOK Try.prog 126 := ⟨_, Try.func126, rfl, rfl⟩
theorem callok141 : CallOK Try.prog 141 := ⟨_, Try.func141, rfl, rfl⟩
theorem callok142 : CallOK Try.prog 142 := ⟨_, Try.func142, rfl, rfl⟩
theorem callok156 : CallOK Try.prog 156 := ⟨_, Try.func156, rfl, rfl⟩
theorem callok157 : CallOK Try.prog 157 := ⟨_, Try.func157, rfl, rfl⟩
theorem callok158 : CallOK Try.prog 158 := ⟨_, Try.func158, rfl, rfl⟩
theorem callok159 : CallOK Try.prog 159 := ⟨_, Try.func159, rfl, rfl⟩
theorem callok160 : CallOK Try.prog 160 := ⟨_, Try.func160, rfl, rfl⟩
theorem callok168 : CallOK Try.prog 168 := ⟨_, Try.func168, rfl, rfl⟩
theorem callok169 : CallOK Try.prog 169 := ⟨_, Try.func169, rfl, rfl⟩
theorem eqs99 (w : World) (a0 : Int) (a1 : Int) (b0 : Int) (b1 : Int) : (Op.equalIn 10000 99 (.agg #[.int .i64 a0, .int .i64 a1]) (.agg #[.int .i64 b0, .int .i64 b1])).run Try.prog w = .ok ((a0 == b0) && (a1 == b1)) w :=
  ((eqA Try.underlying99 (by kernel_rfl) (eqF_more rfl (part1 Try.underlying2 rfl rfl) (part1 Try.underlying2 rfl rfl) (run_equalIn_int _ _ _ _ _ _ _ Try.underlying2) (eqF_one rfl (part1 Try.underlying2 rfl rfl) (part1 Try.underlying2 rfl rfl) (run_equalIn_int _ _ _ _ _ _ _ Try.underlying2)))) : (Op.equalIn (9998 + 2) 99 (.agg #[.int .i64 a0, .int .i64 a1]) (.agg #[.int .i64 b0, .int .i64 b1])).run Try.prog w = .ok ((a0 == b0) && (a1 == b1)) w)
theorem eqs144 (w : World) (a0 : Int) (a1 : Int) (a2 : Int) (b0 : Int) (b1 : Int) (b2 : Int) : (Op.equalIn 10000 144 (.agg #[.int .i64 a0, .int .i64 a1, .int .i64 a2]) (.agg #[.int .i64 b0, .int .i64 b1, .int .i64 b2])).run Try.prog w = .ok ((a0 == b0) && ((a1 == b1) && (a2 == b2))) w :=
  ((eqA Try.underlying144 (by kernel_rfl) (eqF_more rfl (part1 Try.underlying2 rfl rfl) (part1 Try.underlying2 rfl rfl) (run_equalIn_int _ _ _ _ _ _ _ Try.underlying2) (eqF_one rfl (partN Try.underlying99 rfl tsz99 rfl) (partN Try.underlying99 rfl tsz99 rfl) (eqA Try.underlying99 (by kernel_rfl) (eqF_more rfl (part1 Try.underlying2 rfl rfl) (part1 Try.underlying2 rfl rfl) (run_equalIn_int _ _ _ _ _ _ _ Try.underlying2) (eqF_one rfl (part1 Try.underlying2 rfl rfl) (part1 Try.underlying2 rfl rfl) (run_equalIn_int _ _ _ _ _ _ _ Try.underlying2))))))) : (Op.equalIn (9997 + 3) 144 (.agg #[.int .i64 a0, .int .i64 a1, .int .i64 a2]) (.agg #[.int .i64 b0, .int .i64 b1, .int .i64 b2])).run Try.prog w = .ok ((a0 == b0) && ((a1 == b1) && (a2 == b2))) w)
end Go.Proofs.Ytoiacoiccpiciaa.Zk
