/- The data of the program, its types' facts. No condition. -/
import Derived.Test.YtoiacoiccpiciaaProg
import Derived.Test.YtoiacoiccpiciaaZk
namespace Go.Proofs.Ytoiacoiccpiciaa.Zk
open Go Go.RowKit Go.IntWalk Go.Proofs
set_option linter.unusedVariables false
set_option linter.unusedSimpArgs false
set_option maxRecDepth 100000
theorem one1 {P : Value → Prop} {a : Value} (h : P a) : ∀ u ∈ [a], P u := by intro u hu; cases hu with | head => exact h | tail _ h => cases h
theorem onesC {a : Value} {l : List Value} (h : a.oneCell' = true) (hl : ∀ u ∈ l, u.oneCell' = true) : ∀ u ∈ a :: l, u.oneCell' = true := by intro u hu; cases hu with | head => exact h | tail _ h => exact hl u h
theorem onesN : ∀ u ∈ ([] : List Value), u.oneCell' = true := by intro u hu; cases hu
abbrev kInt : Kd Int := Kd.plain 1 (fun x => [.int .i64 x]) (fun _ => rfl) (fun _ => onesC rfl onesN)
abbrev kU8 : Kd Int := Kd.plain 1 (fun x => [.int .u8 x]) (fun _ => rfl) (fun _ => onesC rfl onesN)
abbrev kStr : Kd ByteArray := Kd.plain 1 (fun x => [.string x]) (fun _ => rfl) (fun _ => onesC rfl onesN)
abbrev kBool : Kd Bool := Kd.plain 1 (fun x => [.bool x]) (fun _ => rfl) (fun _ => onesC rfl onesN)
structure Sign where
  fKey : Int
  fId : Int
instance : Inhabited Sign := ⟨⟨default, default⟩⟩
abbrev kSign : Kd Sign := Kd.plain 2 (fun x => [.int .i64 x.fKey, .int .i64 x.fId]) (fun _ => rfl) (fun _ => (onesC rfl (onesC rfl onesN)))
structure Ledger where
  fTexts : List ByteArray
  fSigns : List Sign
instance : Inhabited Ledger := ⟨⟨default, default⟩⟩
structure IntResult where
  fCode : Int
  fValue : Int
instance : Inhabited IntResult := ⟨⟨default, default⟩⟩
abbrev kIntResult : Kd IntResult := Kd.plain 2 (fun x => [.int .i64 x.fCode, .int .i64 x.fValue]) (fun _ => rfl) (fun _ => (onesC rfl (onesC rfl onesN)))
theorem tsz2 : tsz Try.prog 2 = some 1 := by kernel_rfl
theorem tby2 : tby Try.prog 2 = some 8 := by kernel_rfl
theorem tz2 : tzero Try.prog 2 = some (.int .i64 0) := by kernel_rfl
theorem tsz3 : tsz Try.prog 3 = some 1 := by kernel_rfl
theorem tby3 : tby Try.prog 3 = some 8 := by kernel_rfl
theorem tz3 : tzero Try.prog 3 = some (.int .i64 0) := by kernel_rfl
theorem tsz4 : tsz Try.prog 4 = some 1 := by kernel_rfl
theorem tby4 : tby Try.prog 4 = some 1 := by kernel_rfl
theorem tz4 : tzero Try.prog 4 = some (.bool false) := by kernel_rfl
theorem tsz9 : tsz Try.prog 9 = some 1 := by kernel_rfl
theorem tby9 : tby Try.prog 9 = some 16 := by kernel_rfl
theorem tz9 : tzero Try.prog 9 = some (.string ⟨#[]⟩) := by kernel_rfl
theorem tsz55 : tsz Try.prog 55 = some 2 := by kernel_rfl
theorem tby55 : tby Try.prog 55 = some 16 := by kernel_rfl
theorem tz55 : tzero Try.prog 55 = some (.agg #[(.int .i64 0), (.int .i64 0)]) := by kernel_rfl
theorem tsz61 : tsz Try.prog 61 = some 1 := by kernel_rfl
theorem tby61 : tby Try.prog 61 = some 24 := by kernel_rfl
theorem tz61 : tzero Try.prog 61 = some (.slice none 0 0) := by kernel_rfl
theorem tsz62 : tsz Try.prog 62 = some 1 := by kernel_rfl
theorem tby62 : tby Try.prog 62 = some 24 := by kernel_rfl
theorem tz62 : tzero Try.prog 62 = some (.slice none 0 0) := by kernel_rfl
theorem tsz64 : tsz Try.prog 64 = some 2 := by kernel_rfl
theorem tby64 : tby Try.prog 64 = some 48 := by kernel_rfl
theorem tz64 : tzero Try.prog 64 = some (.agg #[(.slice none 0 0), (.slice none 0 0)]) := by kernel_rfl
theorem tsz67 : tsz Try.prog 67 = some 1 := by kernel_rfl
theorem tby67 : tby Try.prog 67 = some 24 := by kernel_rfl
theorem tz67 : tzero Try.prog 67 = some (.slice none 0 0) := by kernel_rfl
theorem tsz69 : tsz Try.prog 69 = some 2 := by kernel_rfl
theorem tby69 : tby Try.prog 69 = some 48 := by kernel_rfl
theorem tz69 : tzero Try.prog 69 = some (.agg #[(.slice none 0 0), (.slice none 0 0)]) := by kernel_rfl
theorem tsz134 : tsz Try.prog 134 = some 1 := by kernel_rfl
theorem tsz171 : tsz Try.prog 171 = some 2 := by kernel_rfl
theorem tby171 : tby Try.prog 171 = some 16 := by kernel_rfl
theorem tz171 : tzero Try.prog 171 = some (.agg #[(.int .i64 0), (.int .i64 0)]) := by kernel_rfl
theorem tsz174 : tsz Try.prog 174 = some 2 := by kernel_rfl
theorem tby174 : tby Try.prog 174 = some 16 := by kernel_rfl
theorem tz174 : tzero Try.prog 174 = some (.agg #[(.int .i64 0), (.int .i64 0)]) := by kernel_rfl
theorem mixed : Try.prog.follows .mixedOrders = true := by kernel_rfl
theorem callok36 : CallOK Try.prog 36 := ⟨_, Try.func36, rfl, rfl⟩
theorem callok43 : CallOK Try.prog 43 := ⟨_, Try.func43, rfl, rfl⟩
theorem callok44 : CallOK Try.prog 44 := ⟨_, Try.func44, rfl, rfl⟩
theorem callok45 : CallOK Try.prog 45 := ⟨_, Try.func45, rfl, rfl⟩
theorem callok46 : CallOK Try.prog 46 := ⟨_, Try.func46, rfl, rfl⟩
theorem callok47 : CallOK Try.prog 47 := ⟨_, Try.func47, rfl, rfl⟩
theorem callok81 : CallOK Try.prog 81 := ⟨_, Try.func81, rfl, rfl⟩
theorem callok86 : CallOK Try.prog 86 := ⟨_, Try.func86, rfl, rfl⟩
theorem callok99 : CallOK Try.prog 99 := ⟨_, Try.func99, rfl, rfl⟩
theorem callok100 : CallOK Try.prog 100 := ⟨_, Try.func100, rfl, rfl⟩
theorem callok101 : CallOK Try.prog 101 := ⟨_, Try.func101, rfl, rfl⟩
theorem callok102 : CallOK Try.prog 102 := ⟨_, Try.func102, rfl, rfl⟩
theorem callok103 : CallOK Try.prog 103 := ⟨_, Try.func103, rfl, rfl⟩
theorem callok104 : CallOK Try.prog 104 := ⟨_, Try.func104, rfl, rfl⟩
theorem callok105 : CallOK Try.prog 105 := ⟨_, Try.func105, rfl, rfl⟩
theorem callok106 : CallOK Try.prog 106 := ⟨_, Try.func106, rfl, rfl⟩
theorem callok107 : CallOK Try.prog 107 := ⟨_, Try.func107, rfl, rfl⟩
theorem callok108 : CallOK Try.prog 108 := ⟨_, Try.func108, rfl, rfl⟩
theorem callok136 : CallOK Try.prog 136 := ⟨_, Try.func136, rfl, rfl⟩
theorem callok137 : CallOK Try.prog 137 := ⟨_, Try.func137, rfl, rfl⟩
theorem callok147 : CallOK Try.prog 147 := ⟨_, Try.func147, rfl, rfl⟩
theorem callok148 : CallOK Try.prog 148 := ⟨_, Try.func148, rfl, rfl⟩
theorem callok149 : CallOK Try.prog 149 := ⟨_, Try.func149, rfl, rfl⟩
theorem callok150 : CallOK Try.prog 150 := ⟨_, Try.func150, rfl, rfl⟩
theorem callok151 : CallOK Try.prog 151 := ⟨_, Try.func151, rfl, rfl⟩
theorem callok152 : CallOK Try.prog 152 := ⟨_, Try.func152, rfl, rfl⟩
theorem callok153 : CallOK Try.prog 153 := ⟨_, Try.func153, rfl, rfl⟩
theorem callok167 : CallOK Try.prog 167 := ⟨_, Try.func167, rfl, rfl⟩
theorem eqs171 (w : World) (a0 : Int) (a1 : Int) (b0 : Int) (b1 : Int) : (Op.equalIn 10000 171 (.agg #[.int .i64 a0, .int .i64 a1]) (.agg #[.int .i64 b0, .int .i64 b1])).run Try.prog w = .ok ((a0 == b0) && (a1 == b1)) w :=
  ((eqA Try.underlying171 (by kernel_rfl) (eqF_more rfl (part1 Try.underlying2 rfl rfl) (part1 Try.underlying2 rfl rfl) (run_equalIn_int _ _ _ _ _ _ _ Try.underlying2) (eqF_one rfl (part1 Try.underlying2 rfl rfl) (part1 Try.underlying2 rfl rfl) (run_equalIn_int _ _ _ _ _ _ _ Try.underlying2)))) : (Op.equalIn (9998 + 2) 171 (.agg #[.int .i64 a0, .int .i64 a1]) (.agg #[.int .i64 b0, .int .i64 b1])).run Try.prog w = .ok ((a0 == b0) && (a1 == b1)) w)
end Go.Proofs.Ytoiacoiccpiciaa.Zk
