/- The data of the program, its types' facts. No condition. -/
import Derived.Test.YtoiacoiccpiciaaProg
import Derived.Test.YtoiacoiccpiciaaZk
namespace Go.Proofs.Ytoiacoiccpiciaa.Zk
open Go Go.RowKit Go.IntWalk Go.Proofs
set_option linter.unusedVariables false
set_option linter.unusedSimpArgs false
set_option maxRecDepth 100000
theorem one1 {P : Value → Prop} {a : Value} (h : P a) : ∀ u ∈ [a], P u := by intro u hu; cases hu with | head => exact h | tail _ h => cases h
theorem onesC {a : Value} {l : List Value} (h : a.oneCell' = true) (hl : ∀ u ∈ l, u.oneCell' = true) : ∀ u ∈ a :: l, u.oneCell' = true := by intro u hu; cases hu with | head => exact h | tail _ h => exact hl u h
theorem onesN : ∀ u ∈ ([] : List Value), u.oneCell' = true := by intro u hu; cases hu
abbrev kInt : Kd Int := Kd.plain 1 (fun x => [.int .i64 x]) (fun _ => rfl) (fun _ => onesC rfl onesN)
abbrev kU8 : Kd Int := Kd.plain 1 (fun x => [.int .u8 x]) (fun _ => rfl) (fun _ => onesC rfl onesN)
abbrev kStr : Kd ByteArray := Kd.plain 1 (fun x => [.string x]) (fun _ => rfl) (fun _ => onesC rfl onesN)
abbrev kBool : Kd Bool := Kd.plain 1 (fun x => [.bool x]) (fun _ => rfl) (fun _ => onesC rfl onesN)
structure Ref where
  fTx : Int
  fAt : Int
instance : Inhabited Ref := ⟨⟨default, default⟩⟩
abbrev kRef : Kd Ref := Kd.plain 2 (fun x => [.int .i64 x.fTx, .int .i64 x.fAt]) (fun _ => rfl) (fun _ => (onesC rfl (onesC rfl onesN)))
structure Rule where
  fKeys : List Int
  fNeed : Int
  fAfter : Int
instance : Inhabited Rule := ⟨⟨default, default, default⟩⟩
abbrev kRule : Kd Rule := Kd.with1 3 (fun x v => [v, .int .i64 x.fNeed, .int .i64 x.fAfter]) (fun x => x.fKeys) kInt 2 (fun _ _ => rfl) (fun _ _ _ _ => (onesC rfl (onesC rfl (onesC rfl onesN))))
structure Out where
  fValue : Int
  fRule : Rule
instance : Inhabited Out := ⟨⟨default, default⟩⟩
abbrev kOut : Kd Out := Kd.with1 4 (fun x v => [.int .i64 x.fValue, v, .int .i64 x.fRule.fNeed, .int .i64 x.fRule.fAfter]) (fun x => x.fRule.fKeys) kInt 2 (fun _ _ => rfl) (fun _ _ _ _ => (onesC rfl (onesC rfl (onesC rfl (onesC rfl onesN)))))
structure Coin where
  fRef : Ref
  fOut : Out
  fHeight : Int
  fMined : Bool
instance : Inhabited Coin := ⟨⟨default, default, default, default⟩⟩
abbrev kCoin : Kd Coin := Kd.with1 8 (fun x v => [.int .i64 x.fRef.fTx, .int .i64 x.fRef.fAt, .int .i64 x.fOut.fValue, v, .int .i64 x.fOut.fRule.fNeed, .int .i64 x.fOut.fRule.fAfter, .int .i64 x.fHeight, .bool x.fMined]) (fun x => x.fOut.fRule.fKeys) kInt 2 (fun _ _ => rfl) (fun _ _ _ _ => (onesC rfl (onesC rfl (onesC rfl (onesC rfl (onesC rfl (onesC rfl (onesC rfl (onesC rfl onesN)))))))))
structure Member where
  fKey : Int
  fRef : Ref
instance : Inhabited Member := ⟨⟨default, default⟩⟩
abbrev kMember : Kd Member := Kd.plain 3 (fun x => [.int .i64 x.fKey, .int .i64 x.fRef.fTx, .int .i64 x.fRef.fAt]) (fun _ => rfl) (fun _ => (onesC rfl (onesC rfl (onesC rfl onesN))))
structure State where
  fTip : Int
  fHeight : Int
  fCoins : List Coin
  fMembers : List Member
instance : Inhabited State := ⟨⟨default, default, default, default⟩⟩
theorem tsz2 : tsz Try.prog 2 = some 1 := by kernel_rfl
theorem tby2 : tby Try.prog 2 = some 8 := by kernel_rfl
theorem tz2 : tzero Try.prog 2 = some (.int .i64 0) := by kernel_rfl
theorem tsz3 : tsz Try.prog 3 = some 1 := by kernel_rfl
theorem tby3 : tby Try.prog 3 = some 8 := by kernel_rfl
theorem tz3 : tzero Try.prog 3 = some (.int .i64 0) := by kernel_rfl
theorem tsz4 : tsz Try.prog 4 = some 1 := by kernel_rfl
theorem tby4 : tby Try.prog 4 = some 1 := by kernel_rfl
theorem tz4 : tzero Try.prog 4 = some (.bool false) := by kernel_rfl
theorem tsz22 : tsz Try.prog 22 = some 1 := by kernel_rfl
theorem tby22 : tby Try.prog 22 = some 24 := by kernel_rfl
theorem tz22 : tzero Try.prog 22 = some (.slice none 0 0) := by kernel_rfl
theorem tsz25 : tsz Try.prog 25 = some 1 := by kernel_rfl
theorem tby25 : tby Try.prog 25 = some 24 := by kernel_rfl
theorem tz25 : tzero Try.prog 25 = some (.slice none 0 0) := by kernel_rfl
theorem tsz44 : tsz Try.prog 44 = some 1 := by kernel_rfl
theorem tby44 : tby Try.prog 44 = some 24 := by kernel_rfl
theorem tz44 : tzero Try.prog 44 = some (.slice none 0 0) := by kernel_rfl
theorem tsz46 : tsz Try.prog 46 = some 4 := by kernel_rfl
theorem tby46 : tby Try.prog 46 = some 64 := by kernel_rfl
theorem tz46 : tzero Try.prog 46 = some (.agg #[(.int .i64 0), (.int .i64 0), (.slice none 0 0), (.slice none 0 0)]) := by kernel_rfl
theorem tsz49 : tsz Try.prog 49 = some 1 := by kernel_rfl
theorem tby49 : tby Try.prog 49 = some 24 := by kernel_rfl
theorem tz49 : tzero Try.prog 49 = some (.slice none 0 0) := by kernel_rfl
theorem tsz51 : tsz Try.prog 51 = some 4 := by kernel_rfl
theorem tby51 : tby Try.prog 51 = some 64 := by kernel_rfl
theorem tz51 : tzero Try.prog 51 = some (.agg #[(.int .i64 0), (.int .i64 0), (.slice none 0 0), (.slice none 0 0)]) := by kernel_rfl
theorem tsz74 : tsz Try.prog 74 = some 1 := by kernel_rfl
theorem tby74 : tby Try.prog 74 = some 24 := by kernel_rfl
theorem tz74 : tzero Try.prog 74 = some (.slice none 0 0) := by kernel_rfl
theorem tsz92 : tsz Try.prog 92 = some 2 := by kernel_rfl
theorem tby92 : tby Try.prog 92 = some 16 := by kernel_rfl
theorem tz92 : tzero Try.prog 92 = some (.agg #[(.int .i64 0), (.int .i64 0)]) := by kernel_rfl
theorem tsz94 : tsz Try.prog 94 = some 3 := by kernel_rfl
theorem tby94 : tby Try.prog 94 = some 40 := by kernel_rfl
theorem tz94 : tzero Try.prog 94 = some (.agg #[(.slice none 0 0), (.int .i64 0), (.int .i64 0)]) := by kernel_rfl
theorem tsz96 : tsz Try.prog 96 = some 4 := by kernel_rfl
theorem tby96 : tby Try.prog 96 = some 48 := by kernel_rfl
theorem tz96 : tzero Try.prog 96 = some (.agg #[(.int .i64 0), (.slice none 0 0), (.int .i64 0), (.int .i64 0)]) := by kernel_rfl
theorem tsz98 : tsz Try.prog 98 = some 8 := by kernel_rfl
theorem tby98 : tby Try.prog 98 = some 80 := by kernel_rfl
theorem tz98 : tzero Try.prog 98 = some (.agg #[(.int .i64 0), (.int .i64 0), (.int .i64 0), (.slice none 0 0), (.int .i64 0), (.int .i64 0), (.int .i64 0), (.bool false)]) := by kernel_rfl
theorem tsz99 : tsz Try.prog 99 = some 2 := by kernel_rfl
theorem tby99 : tby Try.prog 99 = some 16 := by kernel_rfl
theorem tz99 : tzero Try.prog 99 = some (.agg #[(.int .i64 0), (.int .i64 0)]) := by kernel_rfl
theorem tsz100 : tsz Try.prog 100 = some 3 := by kernel_rfl
theorem tby100 : tby Try.prog 100 = some 40 := by kernel_rfl
theorem tz100 : tzero Try.prog 100 = some (.agg #[(.slice none 0 0), (.int .i64 0), (.int .i64 0)]) := by kernel_rfl
theorem tsz102 : tsz Try.prog 102 = some 4 := by kernel_rfl
theorem tby102 : tby Try.prog 102 = some 48 := by kernel_rfl
theorem tz102 : tzero Try.prog 102 = some (.agg #[(.int .i64 0), (.slice none 0 0), (.int .i64 0), (.int .i64 0)]) := by kernel_rfl
theorem tsz104 : tsz Try.prog 104 = some 8 := by kernel_rfl
theorem tby104 : tby Try.prog 104 = some 80 := by kernel_rfl
theorem tz104 : tzero Try.prog 104 = some (.agg #[(.int .i64 0), (.int .i64 0), (.int .i64 0), (.slice none 0 0), (.int .i64 0), (.int .i64 0), (.int .i64 0), (.bool false)]) := by kernel_rfl
theorem tsz128 : tsz Try.prog 128 = some 1 := by kernel_rfl
theorem tsz144 : tsz Try.prog 144 = some 3 := by kernel_rfl
theorem tby144 : tby Try.prog 144 = some 24 := by kernel_rfl
theorem tz144 : tzero Try.prog 144 = some (.agg #[(.int .i64 0), (.int .i64 0), (.int .i64 0)]) := by kernel_rfl
theorem tsz147 : tsz Try.prog 147 = some 3 := by kernel_rfl
theorem tby147 : tby Try.prog 147 = some 24 := by kernel_rfl
theorem tz147 : tzero Try.prog 147 = some (.agg #[(.int .i64 0), (.int .i64 0), (.int .i64 0)]) := by kernel_rfl
theorem tsz156 : tsz Try.prog 156 = some 1 := by kernel_rfl
theorem tsz162 : tsz Try.prog 162 = some 1 := by kernel_rfl
theorem tsz185 : tsz Try.prog 185 = some 1 := by kernel_rfl
theorem tby185 : tby Try.prog 185 = some 24 := by kernel_rfl
theorem tz185 : tzero Try.prog 185 = some (.slice none 0 0) := by kernel_rfl
theorem mixed : Try.prog.follows .mixedOrders = true := by kernel_rfl
theorem callok15 : CallOK Try.prog 15 := ⟨_, Try.func15, rfl, rfl⟩
theorem callok17 : CallOK Try.prog 17 := ⟨_, Try.func17, rfl, rfl⟩
theorem callok19 : CallOK Try.prog 19 := ⟨_, Try.func19, rfl, rfl⟩
theorem callok26 : CallOK Try.prog 26 := ⟨_, Try.func26, rfl, rfl⟩
theorem callok29 : CallOK Try.prog 29 := ⟨_, Try.func29, rfl, rfl⟩
theorem callok31 : CallOK Try.prog 31 := ⟨_, Try.func31, rfl, rfl⟩
theorem callok33 : CallOK Try.prog 33 := ⟨_, Try.func33, rfl, rfl⟩
theorem callok41 : CallOK Try.prog 41 := ⟨_, Try.func41, rfl, rfl⟩
theorem callok42 : CallOK Try.prog 42 := ⟨_, Try.func42, rfl, rfl⟩
theorem callok48 : CallOK Try.prog 48 := ⟨_, Try.func48, rfl, rfl⟩
theorem callok50 : CallOK Try.prog 50 := ⟨_, Try.func50, rfl, rfl⟩
theorem callok53 : CallOK Try.prog 53 := ⟨_, Try.func53, rfl, rfl⟩
theorem callok62 : CallOK Try.prog 62 := ⟨_, Try.func62, rfl, rfl⟩
theorem callok64 : CallOK Try.prog 64 := ⟨_, Try.func64, rfl, rfl⟩
theorem callok67 : CallOK Try.prog 67 := ⟨_, Try.func67, rfl, rfl⟩
theorem callok78 : CallOK Try.prog 78 := ⟨_, Try.func78, rfl, rfl⟩
theorem callok79 : CallOK Try.prog 79 := ⟨_, Try.func79, rfl, rfl⟩
theorem callok80 : CallOK Try.prog 80 := ⟨_, Try.func80, rfl, rfl⟩
theorem callok81 : CallOK Try.prog 81 := ⟨_, Try.func81, rfl, rfl⟩
theorem callok82 : CallOK Try.prog 82 := ⟨_, Try.func82, rfl, rfl⟩
theorem callok83 : CallOK Try.prog 83 := ⟨_, Try.func83, rfl, rfl⟩
theorem callok86 : CallOK Try.prog 86 := ⟨_, Try.func86, rfl, rfl⟩
theorem callok97 : CallOK Try.prog 97 := ⟨_, Try.func97, rfl, rfl⟩
theorem callok98 : CallOK Try.prog 98 := ⟨_, Try.func98, rfl, rfl⟩
theorem callok109 : CallOK Try.prog 109 := ⟨_, Try.func109, rfl, rfl⟩
theorem callok111 : CallOK Try.prog 111 := ⟨_, Try.func111, rfl, rfl⟩
theorem callok113 : CallOK Try.prog 113 := ⟨_, Try.func113, rfl, rfl⟩
theorem callok114 : CallOK Try.prog 114 := ⟨_, Try.func114, rfl, rfl⟩
theorem callok120 : CallOK Try.prog 120 := ⟨_, Try.func120, rfl, rfl⟩
theorem callok122 : CallOK Try.prog 122 := ⟨_, Try.func122, rfl, rfl⟩
theorem callok123 : CallOK Try.prog 123 := ⟨_, Try.func123, rfl, rfl⟩
theorem callok124 : CallOK Try.prog 124 := ⟨_, Try.func124, rfl, rfl⟩
theorem callok125 : CallOK Try.prog 125 := ⟨_, Try.func125, rfl, rfl⟩
theorem callok127 : CallOK Try.prog 127 := ⟨_, Try.func127, rfl, rfl⟩
theorem callok128 : CallOK Try.prog 128 := ⟨_, Try.func128, rfl, rfl⟩
theorem callok129 : CallOK Try.prog 129 := ⟨_, Try.func129, rfl, rfl⟩
theorem callok130 : CallOK Try.prog 130 := ⟨_, Try.func130, rfl, rfl⟩
theorem callok131 : CallOK Try.prog 131 := ⟨_, Try.func131, rfl, rfl⟩
theorem callok132 : CallOK Try.prog 132 := ⟨_, Try.func132, rfl, rfl⟩
theorem callok133 : CallOK Try.prog 133 := ⟨_, Try.func133, rfl, rfl⟩
theorem callok134 : CallOK Try.prog 134 := ⟨_, Try.func134, rfl, rfl⟩
theorem callok135 : CallOK Try.prog 135 := ⟨_, Try.func135, rfl, rfl⟩
theorem callok136 : CallOK Try.prog 136 := ⟨_, Try.func136, rfl, rfl⟩
theorem callok137 : CallOK Try.prog 137 := ⟨_, Try.func137, rfl, rfl⟩
theorem callok145 : CallOK Try.prog 145 := ⟨_, Try.func145, rfl, rfl⟩
theorem callok146 : CallOK Try.prog 146 := ⟨_, Try.func146, rfl, rfl⟩
theorem callok156 : CallOK Try.prog 156 := ⟨_, Try.func156, rfl, rfl⟩
theorem callok158 : CallOK Try.prog 158 := ⟨_, Try.func158, rfl, rfl⟩
theorem callok159 : CallOK Try.prog 159 := ⟨_, Try.func159, rfl, rfl⟩
theorem callok161 : CallOK Try.prog 161 := ⟨_, Try.func161, rfl, rfl⟩
theorem callok162 : CallOK Try.prog 162 := ⟨_, Try.func162, rfl, rfl⟩
theorem callok163 : CallOK Try.prog 163 := ⟨_, Try.func163, rfl, rfl⟩
theorem callok164 : CallOK Try.prog 164 := ⟨_, Try.func164, rfl, rfl⟩
theorem callok166 : CallOK Try.prog 166 := ⟨_, Try.func166, rfl, rfl⟩
theorem callok168 : CallOK Try.prog 168 := ⟨_, Try.func168, rfl, rfl⟩
theorem callok169 : CallOK Try.prog 169 := ⟨_, Try.func169, rfl, rfl⟩
theorem callok170 : CallOK Try.prog 170 := ⟨_, Try.func170, rfl, rfl⟩
theorem eqs99 (w : World) (a0 : Int) (a1 : Int) (b0 : Int) (b1 : Int) : (Op.equalIn 10000 99 (.agg #[.int .i64 a0, .int .i64 a1]) (.agg #[.int .i64 b0, .int .i64 b1])).run Try.prog w = .ok ((a0 == b0) && (a1 == b1)) w :=
  ((eqA Try.underlying99 (by kernel_rfl) (eqF_more rfl (part1 Try.underlying2 rfl rfl) (part1 Try.underlying2 rfl rfl) (run_equalIn_int _ _ _ _ _ _ _ Try.underlying2) (eqF_one rfl (part1 Try.underlying2 rfl rfl) (part1 Try.underlying2 rfl rfl) (run_equalIn_int _ _ _ _ _ _ _ Try.underlying2)))) : (Op.equalIn (9998 + 2) 99 (.agg #[.int .i64 a0, .int .i64 a1]) (.agg #[.int .i64 b0, .int .i64 b1])).run Try.prog w = .ok ((a0 == b0) && (a1 == b1)) w)
end Go.Proofs.Ytoiacoiccpiciaa.Zk
