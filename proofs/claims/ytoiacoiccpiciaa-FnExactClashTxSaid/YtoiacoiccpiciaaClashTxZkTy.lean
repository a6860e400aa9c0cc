/- The data of the program, its types' facts. No condition. -/
import Derived.Test.YtoiacoiccpiciaaProg
import Derived.Test.YtoiacoiccpiciaaZk
namespace Go.Proofs.Ytoiacoiccpiciaa.Zk
open Go Go.RowKit Go.IntWalk Go.Proofs
set_option linter.unusedVariables false
set_option linter.unusedSimpArgs false
set_option maxRecDepth 100000
theorem one1 {P : Value → Prop} {a : Value} (h : P a) : ∀ u ∈ [a], P u := by intro u hu; cases hu with | head => exact h | tail _ h => cases h
theorem onesC {a : Value} {l : List Value} (h : a.oneCell' = true) (hl : ∀ u ∈ l, u.oneCell' = true) : ∀ u ∈ a :: l, u.oneCell' = true := by intro u hu; cases hu with | head => exact h | tail _ h => exact hl u h
theorem onesN : ∀ u ∈ ([] : List Value), u.oneCell' = true := by intro u hu; cases hu
abbrev kInt : Kd Int := Kd.plain 1 (fun x => [.int .i64 x]) (fun _ => rfl) (fun _ => onesC rfl onesN)
abbrev kU8 : Kd Int := Kd.plain 1 (fun x => [.int .u8 x]) (fun _ => rfl) (fun _ => onesC rfl onesN)
abbrev kStr : Kd ByteArray := Kd.plain 1 (fun x => [.string x]) (fun _ => rfl) (fun _ => onesC rfl onesN)
abbrev kBool : Kd Bool := Kd.plain 1 (fun x => [.bool x]) (fun _ => rfl) (fun _ => onesC rfl onesN)
structure Ref where
  fTx : Int
  fAt : Int
instance : Inhabited Ref := ⟨⟨default, default⟩⟩
abbrev kRef : Kd Ref := Kd.plain 2 (fun x => [.int .i64 x.fTx, .int .i64 x.fAt]) (fun _ => rfl) (fun _ => (onesC rfl (onesC rfl onesN)))
structure Rule where
  fKeys : List Int
  fNeed : Int
  fAfter : Int
instance : Inhabited Rule := ⟨⟨default, default, default⟩⟩
abbrev kRule : Kd Rule := Kd.with1 3 (fun x v => [v, .int .i64 x.fNeed, .int .i64 x.fAfter]) (fun x => x.fKeys) kInt 2 (fun _ _ => rfl) (fun _ _ _ _ => (onesC rfl (onesC rfl (onesC rfl onesN))))
structure Out where
  fValue : Int
  fRule : Rule
instance : Inhabited Out := ⟨⟨default, default⟩⟩
abbrev kOut : Kd Out := Kd.with1 4 (fun x v => [.int .i64 x.fValue, v, .int .i64 x.fRule.fNeed, .int .i64 x.fRule.fAfter]) (fun x => x.fRule.fKeys) kInt 2 (fun _ _ => rfl) (fun _ _ _ _ => (onesC rfl (onesC rfl (onesC rfl (onesC rfl onesN)))))
structure Tx where
  fKind : Int
  fMember : Int
  fIns : List Ref
  fOuts : List Out
instance : Inhabited Tx := ⟨⟨default, default, default, default⟩⟩
theorem tsz2 : tsz Try.prog 2 = some 1 := by kernel_rfl
theorem tby2 : tby Try.prog 2 = some 8 := by kernel_rfl
theorem tz2 : tzero Try.prog 2 = some (.int .i64 0) := by kernel_rfl
theorem tsz3 : tsz Try.prog 3 = some 1 := by kernel_rfl
theorem tby3 : tby Try.prog 3 = some 8 := by kernel_rfl
theorem tz3 : tzero Try.prog 3 = some (.int .i64 0) := by kernel_rfl
theorem tsz4 : tsz Try.prog 4 = some 1 := by kernel_rfl
theorem tby4 : tby Try.prog 4 = some 1 := by kernel_rfl
theorem tz4 : tzero Try.prog 4 = some (.bool false) := by kernel_rfl
theorem tsz28 : tsz Try.prog 28 = some 1 := by kernel_rfl
theorem tby28 : tby Try.prog 28 = some 24 := by kernel_rfl
theorem tz28 : tzero Try.prog 28 = some (.slice none 0 0) := by kernel_rfl
theorem tsz29 : tsz Try.prog 29 = some 1 := by kernel_rfl
theorem tby29 : tby Try.prog 29 = some 24 := by kernel_rfl
theorem tz29 : tzero Try.prog 29 = some (.slice none 0 0) := by kernel_rfl
theorem tsz31 : tsz Try.prog 31 = some 4 := by kernel_rfl
theorem tby31 : tby Try.prog 31 = some 64 := by kernel_rfl
theorem tz31 : tzero Try.prog 31 = some (.agg #[(.int .i64 0), (.int .i64 0), (.slice none 0 0), (.slice none 0 0)]) := by kernel_rfl
theorem tsz34 : tsz Try.prog 34 = some 1 := by kernel_rfl
theorem tby34 : tby Try.prog 34 = some 24 := by kernel_rfl
theorem tz34 : tzero Try.prog 34 = some (.slice none 0 0) := by kernel_rfl
theorem tsz35 : tsz Try.prog 35 = some 1 := by kernel_rfl
theorem tby35 : tby Try.prog 35 = some 24 := by kernel_rfl
theorem tz35 : tzero Try.prog 35 = some (.slice none 0 0) := by kernel_rfl
theorem tsz37 : tsz Try.prog 37 = some 4 := by kernel_rfl
theorem tby37 : tby Try.prog 37 = some 64 := by kernel_rfl
theorem tz37 : tzero Try.prog 37 = some (.agg #[(.int .i64 0), (.int .i64 0), (.slice none 0 0), (.slice none 0 0)]) := by kernel_rfl
theorem tsz74 : tsz Try.prog 74 = some 1 := by kernel_rfl
theorem tby74 : tby Try.prog 74 = some 24 := by kernel_rfl
theorem tz74 : tzero Try.prog 74 = some (.slice none 0 0) := by kernel_rfl
theorem tsz92 : tsz Try.prog 92 = some 2 := by kernel_rfl
theorem tby92 : tby Try.prog 92 = some 16 := by kernel_rfl
theorem tz92 : tzero Try.prog 92 = some (.agg #[(.int .i64 0), (.int .i64 0)]) := by kernel_rfl
theorem tsz94 : tsz Try.prog 94 = some 3 := by kernel_rfl
theorem tby94 : tby Try.prog 94 = some 40 := by kernel_rfl
theorem tz94 : tzero Try.prog 94 = some (.agg #[(.slice none 0 0), (.int .i64 0), (.int .i64 0)]) := by kernel_rfl
theorem tsz96 : tsz Try.prog 96 = some 4 := by kernel_rfl
theorem tby96 : tby Try.prog 96 = some 48 := by kernel_rfl
theorem tz96 : tzero Try.prog 96 = some (.agg #[(.int .i64 0), (.slice none 0 0), (.int .i64 0), (.int .i64 0)]) := by kernel_rfl
theorem tsz99 : tsz Try.prog 99 = some 2 := by kernel_rfl
theorem tby99 : tby Try.prog 99 = some 16 := by kernel_rfl
theorem tz99 : tzero Try.prog 99 = some (.agg #[(.int .i64 0), (.int .i64 0)]) := by kernel_rfl
theorem tsz100 : tsz Try.prog 100 = some 3 := by kernel_rfl
theorem tby100 : tby Try.prog 100 = some 40 := by kernel_rfl
theorem tz100 : tzero Try.prog 100 = some (.agg #[(.slice none 0 0), (.int .i64 0), (.int .i64 0)]) := by kernel_rfl
theorem tsz102 : tsz Try.prog 102 = some 4 := by kernel_rfl
theorem tby102 : tby Try.prog 102 = some 48 := by kernel_rfl
theorem tz102 : tzero Try.prog 102 = some (.agg #[(.int .i64 0), (.slice none 0 0), (.int .i64 0), (.int .i64 0)]) := by kernel_rfl
theorem tsz111 : tsz Try.prog 111 = some 1 := by kernel_rfl
theorem tsz156 : tsz Try.prog 156 = some 1 := by kernel_rfl
theorem mixed : Try.prog.follows .mixedOrders = true := by kernel_rfl
theorem callok20 : CallOK Try.prog 20 := ⟨_, Try.func20, rfl, rfl⟩
theorem callok22 : CallOK Try.prog 22 := ⟨_, Try.func22, rfl, rfl⟩
theorem callok24 : CallOK Try.prog 24 := ⟨_, Try.func24, rfl, rfl⟩
theorem callok28 : CallOK Try.prog 28 := ⟨_, Try.func28, rfl, rfl⟩
theorem callok37 : CallOK Try.prog 37 := ⟨_, Try.func37, rfl, rfl⟩
theorem callok38 : CallOK Try.prog 38 := ⟨_, Try.func38, rfl, rfl⟩
theorem callok68 : CallOK Try.prog 68 := ⟨_, Try.func68, rfl, rfl⟩
theorem callok69 : CallOK Try.prog 69 := ⟨_, Try.func69, rfl, rfl⟩
theorem callok71 : CallOK Try.prog 71 := ⟨_, Try.func71, rfl, rfl⟩
theorem callok72 : CallOK Try.prog 72 := ⟨_, Try.func72, rfl, rfl⟩
theorem callok76 : CallOK Try.prog 76 := ⟨_, Try.func76, rfl, rfl⟩
theorem callok77 : CallOK Try.prog 77 := ⟨_, Try.func77, rfl, rfl⟩
theorem callok79 : CallOK Try.prog 79 := ⟨_, Try.func79, rfl, rfl⟩
theorem callok80 : CallOK Try.prog 80 := ⟨_, Try.func80, rfl, rfl⟩
theorem callok81 : CallOK Try.prog 81 := ⟨_, Try.func81, rfl, rfl⟩
theorem callok82 : CallOK Try.prog 82 := ⟨_, Try.func82, rfl, rfl⟩
theorem callok84 : CallOK Try.prog 84 := ⟨_, Try.func84, rfl, rfl⟩
theorem callok85 : CallOK Try.prog 85 := ⟨_, Try.func85, rfl, rfl⟩
theorem callok86 : CallOK Try.prog 86 := ⟨_, Try.func86, rfl, rfl⟩
theorem callok87 : CallOK Try.prog 87 := ⟨_, Try.func87, rfl, rfl⟩
theorem callok88 : CallOK Try.prog 88 := ⟨_, Try.func88, rfl, rfl⟩
theorem callok93 : CallOK Try.prog 93 := ⟨_, Try.func93, rfl, rfl⟩
theorem callok94 : CallOK Try.prog 94 := ⟨_, Try.func94, rfl, rfl⟩
theorem callok113 : CallOK Try.prog 113 := ⟨_, Try.func113, rfl, rfl⟩
theorem callok120 : CallOK Try.prog 120 := ⟨_, Try.func120, rfl, rfl⟩
theorem callok122 : CallOK Try.prog 122 := ⟨_, Try.func122, rfl, rfl⟩
theorem callok123 : CallOK Try.prog 123 := ⟨_, Try.func123, rfl, rfl⟩
theorem callok124 : CallOK Try.prog 124 := ⟨_, Try.func124, rfl, rfl⟩
theorem callok125 : CallOK Try.prog 125 := ⟨_, Try.func125, rfl, rfl⟩
theorem callok127 : CallOK Try.prog 127 := ⟨_, Try.func127, rfl, rfl⟩
theorem callok128 : CallOK Try.prog 128 := ⟨_, Try.func128, rfl, rfl⟩
theorem callok131 : CallOK Try.prog 131 := ⟨_, Try.func131, rfl, rfl⟩
theorem callok132 : CallOK Try.prog 132 := ⟨_, Try.func132, rfl, rfl⟩
theorem callok133 : CallOK Try.prog 133 := ⟨_, Try.func133, rfl, rfl⟩
theorem callok136 : CallOK Try.prog 136 := ⟨_, Try.func136, rfl, rfl⟩
theorem callok137 : CallOK Try.prog 137 := ⟨_, Try.func137, rfl, rfl⟩
theorem callok138 : CallOK Try.prog 138 := ⟨_, Try.func138, rfl, rfl⟩
theorem callok139 : CallOK Try.prog 139 := ⟨_, Try.func139, rfl, rfl⟩
theorem callok140 : CallOK Try.prog 140 := ⟨_, Try.func140, rfl, rfl⟩
theorem callok143 : CallOK Try.prog 143 := ⟨_, Try.func143, rfl, rfl⟩
theorem callok144 : CallOK Try.prog 144 := ⟨_, Try.func144, rfl, rfl⟩
theorem callok156 : CallOK Try.prog 156 := ⟨_, Try.func156, rfl, rfl⟩
theorem callok158 : CallOK Try.prog 158 := ⟨_, Try.func158, rfl, rfl⟩
theorem callok159 : CallOK Try.prog 159 := ⟨_, Try.func159, rfl, rfl⟩
theorem callok161 : CallOK Try.prog 161 := ⟨_, Try.func161, rfl, rfl⟩
theorem callok162 : CallOK Try.prog 162 := ⟨_, Try.func162, rfl, rfl⟩
theorem callok163 : CallOK Try.prog 163 := ⟨_, Try.func163, rfl, rfl⟩
theorem callok165 : CallOK Try.prog 165 := ⟨_, Try.func165, rfl, rfl⟩
theorem callok168 : CallOK Try.prog 168 := ⟨_, Try.func168, rfl, rfl⟩
theorem callok169 : CallOK Try.prog 169 := ⟨_, Try.func169, rfl, rfl⟩
theorem callok170 : CallOK Try.prog 170 := ⟨_, Try.func170, rfl, rfl⟩
theorem eqs99 (w : World) (a0 : Int) (a1 : Int) (b0 : Int) (b1 : Int) : (Op.equalIn 10000 99 (.agg #[.int .i64 a0, .int .i64 a1]) (.agg #[.int .i64 b0, .int .i64 b1])).run Try.prog w = .ok ((a0 == b0) && (a1 == b1)) w :=
  ((eqA Try.underlying99 (by kernel_rfl) (eqF_more rfl (part1 Try.underlying2 rfl rfl) (part1 Try.underlying2 rfl rfl) (run_equalIn_int _ _ _ _ _ _ _ Try.underlying2) (eqF_one rfl (part1 Try.underlying2 rfl rfl) (part1 Try.underlying2 rfl rfl) (run_equalIn_int _ _ _ _ _ _ _ Try.underlying2)))) : (Op.equalIn (9998 + 2) 99 (.agg #[.int .i64 a0, .int .i64 a1]) (.agg #[.int .i64 b0, .int .i64 b1])).run Try.prog w = .ok ((a0 == b0) && (a1 == b1)) w)
end Go.Proofs.Ytoiacoiccpiciaa.Zk
