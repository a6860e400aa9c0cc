/- The data of the program, its types' facts. No condition. -/
import Derived.Test.YtigojhglkilodaaProg
import Derived.Test.YtigojhglkilodaaZkD
namespace Go.Proofs.Ytigojhglkilodaa.Zk
open Go Go.RowKit Go.IntWalk Go.Proofs
set_option linter.unusedVariables false
set_option linter.unusedSimpArgs false
set_option maxRecDepth 100000
theorem one1 {P : Value → Prop} {a : Value} (h : P a) : ∀ u ∈ [a], P u := by intro u hu; cases hu with | head => exact h | tail _ h => cases h
theorem onesC {a : Value} {l : List Value} (h : a.oneCell' = true) (hl : ∀ u ∈ l, u.oneCell' = true) : ∀ u ∈ a :: l, u.oneCell' = true := by intro u hu; cases hu with | head => exact h | tail _ h => exact hl u h
theorem onesN : ∀ u ∈ ([] : List Value), u.oneCell' = true := by intro u hu; cases hu
abbrev kInt : Kd Int := Kd.plain 1 (fun x => [.int .i64 x]) (fun _ => rfl) (fun _ => onesC rfl onesN)
abbrev kU8 : Kd Int := Kd.plain 1 (fun x => [.int .u8 x]) (fun _ => rfl) (fun _ => onesC rfl onesN)
abbrev kStr : Kd ByteArray := Kd.plain 1 (fun x => [.string x]) (fun _ => rfl) (fun _ => onesC rfl onesN)
abbrev kBool : Kd Bool := Kd.plain 1 (fun x => [.bool x]) (fun _ => rfl) (fun _ => onesC rfl onesN)
structure Ref where
  fTx : Int
  fAt : Int
instance : Inhabited Ref := ⟨⟨default, default⟩⟩
abbrev kRef : Kd Ref := Kd.plain 2 (fun x => [.int .i64 x.fTx, .int .i64 x.fAt]) (fun _ => rfl) (fun _ => (onesC rfl (onesC rfl onesN)))
structure Rule where
  fKeys : List Int
  fNeed : Int
  fAfter : Int
instance : Inhabited Rule := ⟨⟨default, default, default⟩⟩
abbrev kRule : Kd Rule := Kd.with1 3 (fun x v => [v, .int .i64 x.fNeed, .int .i64 x.fAfter]) (fun x => x.fKeys) kInt 2 (fun _ _ => rfl) (fun _ _ _ _ => (onesC rfl (onesC rfl (onesC rfl onesN))))
structure Out where
  fValue : Int
  fRule : Rule
instance : Inhabited Out := ⟨⟨default, default⟩⟩
abbrev kOut : Kd Out := Kd.with1 4 (fun x v => [.int .i64 x.fValue, v, .int .i64 x.fRule.fNeed, .int .i64 x.fRule.fAfter]) (fun x => x.fRule.fKeys) kInt 2 (fun _ _ => rfl) (fun _ _ _ _ => (onesC rfl (onesC rfl (onesC rfl (onesC rfl onesN)))))
structure Coin where
  fRef : Ref
  fOut : Out
  fHeight : Int
  fMined : Bool
instance : Inhabited Coin := ⟨⟨default, default, default, default⟩⟩
abbrev kCoin : Kd Coin := Kd.with1 8 (fun x v => [.int .i64 x.fRef.fTx, .int .i64 x.fRef.fAt, .int .i64 x.fOut.fValue, v, .int .i64 x.fOut.fRule.fNeed, .int .i64 x.fOut.fRule.fAfter, .int .i64 x.fHeight, .bool x.fMined]) (fun x => x.fOut.fRule.fKeys) kInt 2 (fun _ _ => rfl) (fun _ _ _ _ => (onesC rfl (onesC rfl (onesC rfl (onesC rfl (onesC rfl (onesC rfl (onesC rfl (onesC rfl onesN)))))))))
structure CoinsResult where
  fCode : Int
  fCoins : List Coin
instance : Inhabited CoinsResult := ⟨⟨default, default⟩⟩
theorem tsz2 : tsz Try.prog 2 = some 1 := by kernel_rfl
theorem tby2 : tby Try.prog 2 = some 8 := by kernel_rfl
theorem tz2 : tzero Try.prog 2 = some (.int .i64 0) := by kernel_rfl
theorem tsz3 : tsz Try.prog 3 = some 1 := by kernel_rfl
theorem tby3 : tby Try.prog 3 = some 8 := by kernel_rfl
theorem tz3 : tzero Try.prog 3 = some (.int .i64 0) := by kernel_rfl
theorem tsz4 : tsz Try.prog 4 = some 1 := by kernel_rfl
theorem tby4 : tby Try.prog 4 = some 1 := by kernel_rfl
theorem tz4 : tzero Try.prog 4 = some (.bool false) := by kernel_rfl
theorem tsz39 : tsz Try.prog 39 = some 1 := by kernel_rfl
theorem tby39 : tby Try.prog 39 = some 24 := by kernel_rfl
theorem tz39 : tzero Try.prog 39 = some (.slice none 0 0) := by kernel_rfl
theorem tsz44 : tsz Try.prog 44 = some 1 := by kernel_rfl
theorem tby44 : tby Try.prog 44 = some 24 := by kernel_rfl
theorem tz44 : tzero Try.prog 44 = some (.slice none 0 0) := by kernel_rfl
theorem tsz50 : tsz Try.prog 50 = some 2 := by kernel_rfl
theorem tby50 : tby Try.prog 50 = some 16 := by kernel_rfl
theorem tz50 : tzero Try.prog 50 = some (.agg #[(.int .i64 0), (.int .i64 0)]) := by kernel_rfl
theorem tsz52 : tsz Try.prog 52 = some 2 := by kernel_rfl
theorem tby52 : tby Try.prog 52 = some 32 := by kernel_rfl
theorem tz52 : tzero Try.prog 52 = some (.agg #[(.int .i64 0), (.slice none 0 0)]) := by kernel_rfl
theorem tsz54 : tsz Try.prog 54 = some 2 := by kernel_rfl
theorem tby54 : tby Try.prog 54 = some 16 := by kernel_rfl
theorem tz54 : tzero Try.prog 54 = some (.agg #[(.int .i64 0), (.int .i64 0)]) := by kernel_rfl
theorem tsz61 : tsz Try.prog 61 = some 1 := by kernel_rfl
theorem tby61 : tby Try.prog 61 = some 24 := by kernel_rfl
theorem tz61 : tzero Try.prog 61 = some (.slice none 0 0) := by kernel_rfl
theorem tsz72 : tsz Try.prog 72 = some 1 := by kernel_rfl
theorem tby72 : tby Try.prog 72 = some 24 := by kernel_rfl
theorem tz72 : tzero Try.prog 72 = some (.slice none 0 0) := by kernel_rfl
theorem tsz111 : tsz Try.prog 111 = some 1 := by kernel_rfl
theorem tby111 : tby Try.prog 111 = some 24 := by kernel_rfl
theorem tz111 : tzero Try.prog 111 = some (.slice none 0 0) := by kernel_rfl
theorem tsz113 : tsz Try.prog 113 = some 3 := by kernel_rfl
theorem tby113 : tby Try.prog 113 = some 40 := by kernel_rfl
theorem tz113 : tzero Try.prog 113 = some (.agg #[(.slice none 0 0), (.int .i64 0), (.int .i64 0)]) := by kernel_rfl
theorem tsz115 : tsz Try.prog 115 = some 4 := by kernel_rfl
theorem tby115 : tby Try.prog 115 = some 48 := by kernel_rfl
theorem tz115 : tzero Try.prog 115 = some (.agg #[(.int .i64 0), (.slice none 0 0), (.int .i64 0), (.int .i64 0)]) := by kernel_rfl
theorem tsz117 : tsz Try.prog 117 = some 8 := by kernel_rfl
theorem tby117 : tby Try.prog 117 = some 80 := by kernel_rfl
theorem tz117 : tzero Try.prog 117 = some (.agg #[(.int .i64 0), (.int .i64 0), (.int .i64 0), (.slice none 0 0), (.int .i64 0), (.int .i64 0), (.int .i64 0), (.bool false)]) := by kernel_rfl
theorem tsz119 : tsz Try.prog 119 = some 3 := by kernel_rfl
theorem tby119 : tby Try.prog 119 = some 40 := by kernel_rfl
theorem tz119 : tzero Try.prog 119 = some (.agg #[(.slice none 0 0), (.int .i64 0), (.int .i64 0)]) := by kernel_rfl
theorem tsz121 : tsz Try.prog 121 = some 4 := by kernel_rfl
theorem tby121 : tby Try.prog 121 = some 48 := by kernel_rfl
theorem tz121 : tzero Try.prog 121 = some (.agg #[(.int .i64 0), (.slice none 0 0), (.int .i64 0), (.int .i64 0)]) := by kernel_rfl
theorem tsz123 : tsz Try.prog 123 = some 8 := by kernel_rfl
theorem tby123 : tby Try.prog 123 = some 80 := by kernel_rfl
theorem tz123 : tzero Try.prog 123 = some (.agg #[(.int .i64 0), (.int .i64 0), (.int .i64 0), (.slice none 0 0), (.int .i64 0), (.int .i64 0), (.int .i64 0), (.bool false)]) := by kernel_rfl
theorem tsz154 : tsz Try.prog 154 = some 1 := by kernel_rfl
theorem tsz193 : tsz Try.prog 193 = some 1 := by kernel_rfl
theorem tsz202 : tsz Try.prog 202 = some 1 := by kernel_rfl
theorem tby202 : tby Try.prog 202 = some 8 := by kernel_rfl
theorem tz202 : tzero Try.prog 202 = some (.int .u64 0) := by kernel_rfl
theorem tsz215 : tsz Try.prog 215 = some 1 := by kernel_rfl
theorem tby215 : tby Try.prog 215 = some 24 := by kernel_rfl
theorem tz215 : tzero Try.prog 215 = some (.slice none 0 0) := by kernel_rfl
theorem mixed : Try.prog.follows .mixedOrders = true := by kernel_rfl
theorem callok18 : CallOK Try.prog 18 := ⟨_, Try.func18, rfl, rfl⟩
theorem callok20 : CallOK Try.prog 20 := ⟨_, Try.func20, rfl, rfl⟩
theorem callok23 : CallOK Try.prog 23 := ⟨_, Try.func23, rfl, rfl⟩
theorem callok25 : CallOK Try.prog 25 := ⟨_, Try.func25, rfl, rfl⟩
theorem callok27 : CallOK Try.prog 27 := ⟨_, Try.func27, rfl, rfl⟩
theorem callok28 : CallOK Try.prog 28 := ⟨_, Try.func28, rfl, rfl⟩
theorem callok29 : CallOK Try.prog 29 := ⟨_, Try.func29, rfl, rfl⟩
theorem callok30 : CallOK Try.prog 30 := ⟨_, Try.func30, rfl, rfl⟩
theorem callok44 : CallOK Try.prog 44 := ⟨_, Try.func44, rfl, rfl⟩
theorem callok45 : CallOK Try.prog 45 := ⟨_, Try.func45, rfl, rfl⟩
theorem callok46 : CallOK Try.prog 46 := ⟨_, Try.func46, rfl, rfl⟩
theorem callok47 : CallOK Try.prog 47 := ⟨_, Try.func47, rfl, rfl⟩
theorem callok48 : CallOK Try.prog 48 := ⟨_, Try.func48, rfl, rfl⟩
theorem callok49 : CallOK Try.prog 49 := ⟨_, Try.func49, rfl, rfl⟩
theorem callok72 : CallOK Try.prog 72 := ⟨_, Try.func72, rfl, rfl⟩
theorem callok73 : CallOK Try.prog 73 := ⟨_, Try.func73, rfl, rfl⟩
theorem callok75 : CallOK Try.prog 75 := ⟨_, Try.func75, rfl, rfl⟩
theorem callok76 : CallOK Try.prog 76 := ⟨_, Try.func76, rfl, rfl⟩
theorem callok79 : CallOK Try.prog 79 := ⟨_, Try.func79, rfl, rfl⟩
theorem callok80 : CallOK Try.prog 80 := ⟨_, Try.func80, rfl, rfl⟩
theorem callok81 : CallOK Try.prog 81 := ⟨_, Try.func81, rfl, rfl⟩
theorem callok82 : CallOK Try.prog 82 := ⟨_, Try.func82, rfl, rfl⟩
theorem callok83 : CallOK Try.prog 83 := ⟨_, Try.func83, rfl, rfl⟩
theorem callok84 : CallOK Try.prog 84 := ⟨_, Try.func84, rfl, rfl⟩
theorem callok85 : CallOK Try.prog 85 := ⟨_, Try.func85, rfl, rfl⟩
theorem callok88 : CallOK Try.prog 88 := ⟨_, Try.func88, rfl, rfl⟩
theorem callok96 : CallOK Try.prog 96 := ⟨_, Try.func96, rfl, rfl⟩
theorem callok97 : CallOK Try.prog 97 := ⟨_, Try.func97, rfl, rfl⟩
theorem callok98 : CallOK Try.prog 98 := ⟨_, Try.func98, rfl, rfl⟩
theorem callok99 : CallOK Try.prog 99 := ⟨_, Try.func99, rfl, rfl⟩
theorem callok100 : CallOK Try.prog 100 := ⟨_, Try.func100, rfl, rfl⟩
theorem callok101 : CallOK Try.prog 101 := ⟨_, Try.func101, rfl, rfl⟩
theorem callok104 : CallOK Try.prog 104 := ⟨_, Try.func104, rfl, rfl⟩
theorem callok106 : CallOK Try.prog 106 := ⟨_, Try.func106, rfl, rfl⟩
theorem callok107 : CallOK Try.prog 107 := ⟨_, Try.func107, rfl, rfl⟩
theorem callok111 : CallOK Try.prog 111 := ⟨_, Try.func111, rfl, rfl⟩
theorem callok112 : CallOK Try.prog 112 := ⟨_, Try.func112, rfl, rfl⟩
theorem callok121 : CallOK Try.prog 121 := ⟨_, Try.func121, rfl, rfl⟩
theorem callok122 : CallOK Try.prog 122 := ⟨_, Try.func122, rfl, rfl⟩
theorem callok123 : CallOK Try.prog 123 := ⟨_, Try.func123, rfl, rfl⟩
theorem callok124 : CallOK Try.prog 124 := ⟨_, Try.func124, rfl, rfl⟩
theorem callok125 : CallOK Try.prog 125 := ⟨_, Try.func125, rfl, rfl⟩
theorem callok126 : CallOK Try.prog 126 := ⟨_, Try.func126, rfl, rfl⟩
theorem callok128 : CallOK Try.prog 128 := ⟨_, Try.func128, rfl, rfl⟩
theorem callok129 : CallOK Try.prog 129 := ⟨_, Try.func129, rfl, rfl⟩
theorem callok130 : CallOK Try.prog 130 := ⟨_, Try.func130, rfl, rfl⟩
theorem callok131 : CallOK Try.prog 131 := ⟨_, Try.func131, rfl, rfl⟩
theorem callok132 : CallOK Try.prog 132 := ⟨_, Try.func132, rfl, rfl⟩
theorem callok142 : CallOK Try.prog 142 := ⟨_, Try.func142, rfl, rfl⟩
theorem callok150 : CallOK Try.prog 150 := ⟨_, Try.func150, rfl, rfl⟩
theorem callok151 : CallOK Try.prog 151 := ⟨_, Try.func151, rfl, rfl⟩
theorem callok152 : CallOK Try.prog 152 := ⟨_, Try.func152, rfl, rfl⟩
theorem callok154 : CallOK Try.prog 154 := ⟨_, Try.func154, rfl, rfl⟩
theorem callok157 : CallOK Try.prog 157 := ⟨_, Try.func157, rfl, rfl⟩
theorem callok159 : CallOK Try.prog 159 := ⟨_, Try.func159, rfl, rfl⟩
theorem callok160 : CallOK Try.prog 160 := ⟨_, Try.func160, rfl, rfl⟩
theorem callok161 : CallOK Try.prog 161 := ⟨_, Try.func161, rfl, rfl⟩
theorem callok162 : CallOK Try.prog 162 := ⟨_, Try.func162, rfl, rfl⟩
theorem callok163 : CallOK Try.prog 163 := ⟨_, Try.func163, rfl, rfl⟩
theorem callok170 : CallOK Try.prog 170 := ⟨_, Try.func170, rfl, rfl⟩
theorem callok171 : CallOK Try.prog 171 := ⟨_, Try.func171, rfl, rfl⟩
theorem callok176 : CallOK Try.prog 176 := ⟨_, Try.func176, rfl, rfl⟩
theorem callok177 : CallOK Try.prog 177 := ⟨_, Try.func177, rfl, rfl⟩
theorem callok178 : CallOK Try.prog 178 := ⟨_, Try.func178, rfl, rfl⟩
theorem callok179 : CallOK Try.prog 179 := ⟨_, Try.func179, rfl, rfl⟩
theorem callok180 : CallOK Try.prog 180 := ⟨_, Try.func180, rfl, rfl⟩
theorem callok185 : CallOK Try.prog 185 := ⟨_, Try.func185, rfl, rfl⟩
theorem eqs54 (w : World) (a0 : Int) (a1 : Int) (b0 : Int) (b1 : Int) : (Op.equalIn 10000 54 (.agg #[.int .i64 a0, .int .i64 a1]) (.agg #[.int .i64 b0, .int .i64 b1])).run Try.prog w = .ok ((a0 == b0) && (a1 == b1)) w :=
  ((eqA Try.underlying54 (by kernel_rfl) (eqF_more rfl (part1 Try.underlying2 rfl rfl) (part1 Try.underlying2 rfl rfl) (run_equalIn_int _ _ _ _ _ _ _ Try.underlying2) (eqF_one rfl (part1 Try.underlying2 rfl rfl) (part1 Try.underlying2 rfl rfl) (run_equalIn_int _ _ _ _ _ _ _ Try.underlying2)))) : (Op.equalIn (9998 + 2) 54 (.agg #[.int .i64 a0, .int .i64 a1]) (.agg #[.int .i64 b0, .int .i64 b1])).run Try.prog w = .ok ((a0 == b0) && (a1 == b1)) w)
end Go.Proofs.Ytigojhglkilodaa.Zk
