/- The data of the program, its types' facts. No condition. -/
import Derived.Test.YtbbcabpnkdilgaaProg
import Derived.Test.YtbbcabpnkdilgaaZkQ
import Derived.Test.YtbbcabpnkdilgaaSrt
import Derived.Test.YtbbcabpnkdilgaaZkD
namespace Go.Proofs.Ytbbcabpnkdilgaa.Zk
open Go Go.RowKit Go.IntWalk Go.Proofs
set_option linter.unusedVariables false
set_option linter.unusedSimpArgs false
set_option maxRecDepth 100000
theorem one1 {P : Value → Prop} {a : Value} (h : P a) : ∀ u ∈ [a], P u := by intro u hu; cases hu with | head => exact h | tail _ h => cases h
theorem onesC {a : Value} {l : List Value} (h : a.oneCell' = true) (hl : ∀ u ∈ l, u.oneCell' = true) : ∀ u ∈ a :: l, u.oneCell' = true := by intro u hu; cases hu with | head => exact h | tail _ h => exact hl u h
theorem onesN : ∀ u ∈ ([] : List Value), u.oneCell' = true := by intro u hu; cases hu
abbrev kInt : Kd Int := Kd.plain 1 (fun x => [.int .i64 x]) (fun _ => rfl) (fun _ => onesC rfl onesN)
abbrev kU8 : Kd Int := Kd.plain 1 (fun x => [.int .u8 x]) (fun _ => rfl) (fun _ => onesC rfl onesN)
abbrev kStr : Kd ByteArray := Kd.plain 1 (fun x => [.string x]) (fun _ => rfl) (fun _ => onesC rfl onesN)
abbrev kBool : Kd Bool := Kd.plain 1 (fun x => [.bool x]) (fun _ => rfl) (fun _ => onesC rfl onesN)
structure Ref where
  fTx : Int
  fAt : Int
instance : Inhabited Ref := ⟨⟨default, default⟩⟩
abbrev kRef : Kd Ref := Kd.plain 2 (fun x => [.int .i64 x.fTx, .int .i64 x.fAt]) (fun _ => rfl) (fun _ => (onesC rfl (onesC rfl onesN)))
structure Rule where
  fKeys : List Int
  fNeed : Int
  fAfter : Int
instance : Inhabited Rule := ⟨⟨default, default, default⟩⟩
abbrev kRule : Kd Rule := Kd.with1 3 (fun x v => [v, .int .i64 x.fNeed, .int .i64 x.fAfter]) (fun x => x.fKeys) kInt 2 (fun _ _ => rfl) (fun _ _ _ _ => (onesC rfl (onesC rfl (onesC rfl onesN))))
structure Out where
  fValue : Int
  fRule : Rule
instance : Inhabited Out := ⟨⟨default, default⟩⟩
abbrev kOut : Kd Out := Kd.with1 4 (fun x v => [.int .i64 x.fValue, v, .int .i64 x.fRule.fNeed, .int .i64 x.fRule.fAfter]) (fun x => x.fRule.fKeys) kInt 2 (fun _ _ => rfl) (fun _ _ _ _ => (onesC rfl (onesC rfl (onesC rfl (onesC rfl onesN)))))
structure Coin where
  fRef : Ref
  fOut : Out
  fHeight : Int
  fMined : Bool
instance : Inhabited Coin := ⟨⟨default, default, default, default⟩⟩
abbrev kCoin : Kd Coin := Kd.with1 8 (fun x v => [.int .i64 x.fRef.fTx, .int .i64 x.fRef.fAt, .int .i64 x.fOut.fValue, v, .int .i64 x.fOut.fRule.fNeed, .int .i64 x.fOut.fRule.fAfter, .int .i64 x.fHeight, .bool x.fMined]) (fun x => x.fOut.fRule.fKeys) kInt 2 (fun _ _ => rfl) (fun _ _ _ _ => (onesC rfl (onesC rfl (onesC rfl (onesC rfl (onesC rfl (onesC rfl (onesC rfl (onesC rfl onesN)))))))))
structure CoinsResult where
  fCode : Int
  fCoins : List Coin
instance : Inhabited CoinsResult := ⟨⟨default, default⟩⟩
theorem tsz2 : tsz Try.prog 2 = some 1 := by kernel_rfl
theorem tby2 : tby Try.prog 2 = some 8 := by kernel_rfl
theorem tz2 : tzero Try.prog 2 = some (.int .i64 0) := by kernel_rfl
theorem tsz3 : tsz Try.prog 3 = some 1 := by kernel_rfl
theorem tby3 : tby Try.prog 3 = some 8 := by kernel_rfl
theorem tz3 : tzero Try.prog 3 = some (.int .i64 0) := by kernel_rfl
theorem tsz4 : tsz Try.prog 4 = some 1 := by kernel_rfl
theorem tby4 : tby Try.prog 4 = some 1 := by kernel_rfl
theorem tz4 : tzero Try.prog 4 = some (.bool false) := by kernel_rfl
theorem tsz26 : tsz Try.prog 26 = some 1 := by kernel_rfl
theorem tby26 : tby Try.prog 26 = some 24 := by kernel_rfl
theorem tz26 : tzero Try.prog 26 = some (.slice none 0 0) := by kernel_rfl
theorem tsz36 : tsz Try.prog 36 = some 2 := by kernel_rfl
theorem tby36 : tby Try.prog 36 = some 16 := by kernel_rfl
theorem tz36 : tzero Try.prog 36 = some (.agg #[(.int .i64 0), (.int .i64 0)]) := by kernel_rfl
theorem tsz39 : tsz Try.prog 39 = some 1 := by kernel_rfl
theorem tby39 : tby Try.prog 39 = some 24 := by kernel_rfl
theorem tz39 : tzero Try.prog 39 = some (.slice none 0 0) := by kernel_rfl
theorem tsz47 : tsz Try.prog 47 = some 1 := by kernel_rfl
theorem tby47 : tby Try.prog 47 = some 24 := by kernel_rfl
theorem tz47 : tzero Try.prog 47 = some (.slice none 0 0) := by kernel_rfl
theorem tsz60 : tsz Try.prog 60 = some 1 := by kernel_rfl
theorem tby60 : tby Try.prog 60 = some 24 := by kernel_rfl
theorem tz60 : tzero Try.prog 60 = some (.slice none 0 0) := by kernel_rfl
theorem tsz64 : tsz Try.prog 64 = some 2 := by kernel_rfl
theorem tby64 : tby Try.prog 64 = some 32 := by kernel_rfl
theorem tz64 : tzero Try.prog 64 = some (.agg #[(.int .i64 0), (.slice none 0 0)]) := by kernel_rfl
theorem tsz67 : tsz Try.prog 67 = some 3 := by kernel_rfl
theorem tby67 : tby Try.prog 67 = some 40 := by kernel_rfl
theorem tz67 : tzero Try.prog 67 = some (.agg #[(.slice none 0 0), (.int .i64 0), (.int .i64 0)]) := by kernel_rfl
theorem tsz69 : tsz Try.prog 69 = some 4 := by kernel_rfl
theorem tby69 : tby Try.prog 69 = some 48 := by kernel_rfl
theorem tz69 : tzero Try.prog 69 = some (.agg #[(.int .i64 0), (.slice none 0 0), (.int .i64 0), (.int .i64 0)]) := by kernel_rfl
theorem tsz72 : tsz Try.prog 72 = some 8 := by kernel_rfl
theorem tby72 : tby Try.prog 72 = some 80 := by kernel_rfl
theorem tz72 : tzero Try.prog 72 = some (.agg #[(.int .i64 0), (.int .i64 0), (.int .i64 0), (.slice none 0 0), (.int .i64 0), (.int .i64 0), (.int .i64 0), (.bool false)]) := by kernel_rfl
theorem tsz80 : tsz Try.prog 80 = some 1 := by kernel_rfl
theorem tby80 : tby Try.prog 80 = some 24 := by kernel_rfl
theorem tz80 : tzero Try.prog 80 = some (.slice none 0 0) := by kernel_rfl
theorem tsz114 : tsz Try.prog 114 = some 2 := by kernel_rfl
theorem tby114 : tby Try.prog 114 = some 16 := by kernel_rfl
theorem tz114 : tzero Try.prog 114 = some (.agg #[(.int .i64 0), (.int .i64 0)]) := by kernel_rfl
theorem tsz127 : tsz Try.prog 127 = some 1 := by kernel_rfl
theorem tsz139 : tsz Try.prog 139 = some 3 := by kernel_rfl
theorem tby139 : tby Try.prog 139 = some 40 := by kernel_rfl
theorem tz139 : tzero Try.prog 139 = some (.agg #[(.slice none 0 0), (.int .i64 0), (.int .i64 0)]) := by kernel_rfl
theorem tsz141 : tsz Try.prog 141 = some 4 := by kernel_rfl
theorem tby141 : tby Try.prog 141 = some 48 := by kernel_rfl
theorem tz141 : tzero Try.prog 141 = some (.agg #[(.int .i64 0), (.slice none 0 0), (.int .i64 0), (.int .i64 0)]) := by kernel_rfl
theorem tsz143 : tsz Try.prog 143 = some 8 := by kernel_rfl
theorem tby143 : tby Try.prog 143 = some 80 := by kernel_rfl
theorem tz143 : tzero Try.prog 143 = some (.agg #[(.int .i64 0), (.int .i64 0), (.int .i64 0), (.slice none 0 0), (.int .i64 0), (.int .i64 0), (.int .i64 0), (.bool false)]) := by kernel_rfl
theorem tsz168 : tsz Try.prog 168 = some 1 := by kernel_rfl
theorem tsz188 : tsz Try.prog 188 = some 1 := by kernel_rfl
theorem tby188 : tby Try.prog 188 = some 24 := by kernel_rfl
theorem tz188 : tzero Try.prog 188 = some (.slice none 0 0) := by kernel_rfl
theorem mixed : Try.prog.follows .mixedOrders = true := by kernel_rfl
theorem callok27 : CallOK Try.prog 27 := ⟨_, Try.func27, rfl, rfl⟩
theorem callok28 : CallOK Try.prog 28 := ⟨_, Try.func28, rfl, rfl⟩
theorem callok32 : CallOK Try.prog 32 := ⟨_, Try.func32, rfl, rfl⟩
theorem callok36 : CallOK Try.prog 36 := ⟨_, Try.func36, rfl, rfl⟩
theorem callok37 : CallOK Try.prog 37 := ⟨_, Try.func37, rfl, rfl⟩
theorem callok38 : CallOK Try.prog 38 := ⟨_, Try.func38, rfl, rfl⟩
theorem callok39 : CallOK Try.prog 39 := ⟨_, Try.func39, rfl, rfl⟩
theorem callok40 : CallOK Try.prog 40 := ⟨_, Try.func40, rfl, rfl⟩
theorem callok41 : CallOK Try.prog 41 := ⟨_, Try.func41, rfl, rfl⟩
theorem callok42 : CallOK Try.prog 42 := ⟨_, Try.func42, rfl, rfl⟩
theorem callok43 : CallOK Try.prog 43 := ⟨_, Try.func43, rfl, rfl⟩
theorem callok44 : CallOK Try.prog 44 := ⟨_, Try.func44, rfl, rfl⟩
theorem callok45 : CallOK Try.prog 45 := ⟨_, Try.func45, rfl, rfl⟩
theorem callok46 : CallOK Try.prog 46 := ⟨_, Try.func46, rfl, rfl⟩
theorem callok58 : CallOK Try.prog 58 := ⟨_, Try.func58, rfl, rfl⟩
theorem callok62 : CallOK Try.prog 62 := ⟨_, Try.func62, rfl, rfl⟩
theorem callok63 : CallOK Try.prog 63 := ⟨_, Try.func63, rfl, rfl⟩
theorem callok77 : CallOK Try.prog 77 := ⟨_, Try.func77, rfl, rfl⟩
theorem callok78 : CallOK Try.prog 78 := ⟨_, Try.func78, rfl, rfl⟩
theorem callok79 : CallOK Try.prog 79 := ⟨_, Try.func79, rfl, rfl⟩
theorem callok80 : CallOK Try.prog 80 := ⟨_, Try.func80, rfl, rfl⟩
theorem callok81 : CallOK Try.prog 81 := ⟨_, Try.func81, rfl, rfl⟩
theorem callok82 : CallOK Try.prog 82 := ⟨_, Try.func82, rfl, rfl⟩
theorem callok84 : CallOK Try.prog 84 := ⟨_, Try.func84, rfl, rfl⟩
theorem callok88 : CallOK Try.prog 88 := ⟨_, Try.func88, rfl, rfl⟩
theorem callok89 : CallOK Try.prog 89 := ⟨_, Try.func89, rfl, rfl⟩
theorem callok90 : CallOK Try.prog 90 := ⟨_, Try.func90, rfl, rfl⟩
theorem callok91 : CallOK Try.prog 91 := ⟨_, Try.func91, rfl, rfl⟩
theorem callok95 : CallOK Try.prog 95 := ⟨_, Try.func95, rfl, rfl⟩
theorem callok96 : CallOK Try.prog 96 := ⟨_, Try.func96, rfl, rfl⟩
theorem callok97 : CallOK Try.prog 97 := ⟨_, Try.func97, rfl, rfl⟩
theorem callok98 : CallOK Try.prog 98 := ⟨_, Try.func98, rfl, rfl⟩
theorem callok99 : CallOK Try.prog 99 := ⟨_, Try.func99, rfl, rfl⟩
theorem callok100 : CallOK Try.prog 100 := ⟨_, Try.func100, rfl, rfl⟩
theorem callok101 : CallOK Try.prog 101 := ⟨_, Try.func101, rfl, rfl⟩
theorem callok102 : CallOK Try.prog 102 := ⟨_, Try.func102, rfl, rfl⟩
theorem callok108 : CallOK Try.prog 108 := ⟨_, Try.func108, rfl, rfl⟩
theorem callok109 : CallOK Try.prog 109 := ⟨_, Try.func109, rfl, rfl⟩
theorem callok116 : CallOK Try.prog 116 := ⟨_, Try.func116, rfl, rfl⟩
theorem callok117 : CallOK Try.prog 117 := ⟨_, Try.func117, rfl, rfl⟩
theorem callok123 : CallOK Try.prog 123 := ⟨_, Try.func123, rfl, rfl⟩
theorem callok125 : CallOK Try.prog 125 := ⟨_, Try.func125, rfl, rfl⟩
theorem callok126 : CallOK Try.prog 126 := ⟨_, Try.func126, rfl, rfl⟩
theorem callok128 : CallOK Try.prog 128 := ⟨_, Try.func128, rfl, rfl⟩
theorem callok129 : CallOK Try.prog 129 := ⟨_, Try.func129, rfl, rfl⟩
theorem callok130 : CallOK Try.prog 130 := ⟨_, Try.func130, rfl, rfl⟩
theorem callok131 : CallOK Try.prog 131 := ⟨_, Try.func131, rfl, rfl⟩
theorem callok132 : CallOK Try.prog 132 := ⟨_, Try.func132, rfl, rfl⟩
theorem callok133 : CallOK Try.prog 133 := ⟨_, Try.func133, rfl, rfl⟩
theorem callok134 : CallOK Try.prog 134 := ⟨_, Try.func134, rfl, rfl⟩
theorem callok135 : CallOK Try.prog 135 := ⟨_, Try.func135, rfl, rfl⟩
theorem callok140 : CallOK Try.prog 140 := ⟨_, Try.func140, rfl, rfl⟩
theorem callok141 : CallOK Try.prog 141 := ⟨_, Try.func141, rfl, rfl⟩
theorem callok142 : CallOK Try.prog 142 := ⟨_, Try.func142, rfl, rfl⟩
theorem callok144 : CallOK Try.prog 144 := ⟨_, Try.func144, rfl, rfl⟩
theorem callok145 : CallOK Try.prog 145 := ⟨_, Try.func145, rfl, rfl⟩
theorem callok146 : CallOK Try.prog 146 := ⟨_, Try.func146, rfl, rfl⟩
theorem callok147 : CallOK Try.prog 147 := ⟨_, Try.func147, rfl, rfl⟩
theorem callok151 : CallOK Try.prog 151 := ⟨_, Try.func151, rfl, rfl⟩
theorem callok152 : CallOK Try.prog 152 := ⟨_, Try.func152, rfl, rfl⟩
theorem callok153 : CallOK Try.prog 153 := ⟨_, Try.func153, rfl, rfl⟩
theorem callok154 : CallOK Try.prog 154 := ⟨_, Try.func154, rfl, rfl⟩
theorem callok155 : CallOK Try.prog 155 := ⟨_, Try.func155, rfl, rfl⟩
theorem callok157 : CallOK Try.prog 157 := ⟨_, Try.func157, rfl, rfl⟩
theorem callok158 : CallOK Try.prog 158 := ⟨_, Try.func158, rfl, rfl⟩
theorem callok160 : CallOK Try.prog 160 := ⟨_, Try.func160, rfl, rfl⟩
theorem callok161 : CallOK Try.prog 161 := ⟨_, Try.func161, rfl, rfl⟩
theorem callok162 : CallOK Try.prog 162 := ⟨_, Try.func162, rfl, rfl⟩
theorem callok164 : CallOK Try.prog 164 := ⟨_, Try.func164, rfl, rfl⟩
theorem callok165 : CallOK Try.prog 165 := ⟨_, Try.func165, rfl, rfl⟩
theorem callok168 : CallOK Try.prog 168 := ⟨_, Try.func168, rfl, rfl⟩

end Go.Proofs.Ytbbcabpnkdilgaa.Zk
