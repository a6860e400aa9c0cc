/- The data of the program, its types' facts. No condition. -/
import Derived.Test.YtoiacoiccpiciaaProg
import Derived.Test.YtoiacoiccpiciaaZkX
namespace Go.Proofs.Ytoiacoiccpiciaa.Zk
open Go Go.RowKit Go.IntWalk Go.Proofs
set_option linter.unusedVariables false
set_option linter.unusedSimpArgs false
set_option maxRecDepth 100000
theorem one1 {P : Value → Prop} {a : Value} (h : P a) : ∀ u ∈ [a], P u := by intro u hu; cases hu with | head => exact h | tail _ h => cases h
theorem onesC {a : Value} {l : List Value} (h : a.oneCell' = true) (hl : ∀ u ∈ l, u.oneCell' = true) : ∀ u ∈ a :: l, u.oneCell' = true := by intro u hu; cases hu with | head => exact h | tail _ h => exact hl u h
theorem onesN : ∀ u ∈ ([] : List Value), u.oneCell' = true := by intro u hu; cases hu
abbrev kInt : Kd Int := Kd.plain 1 (fun x => [.int .i64 x]) (fun _ => rfl) (fun _ => onesC rfl onesN)
abbrev kU8 : Kd Int := Kd.plain 1 (fun x => [.int .u8 x]) (fun _ => rfl) (fun _ => onesC rfl onesN)
abbrev kStr : Kd ByteArray := Kd.plain 1 (fun x => [.string x]) (fun _ => rfl) (fun _ => onesC rfl onesN)
abbrev kBool : Kd Bool := Kd.plain 1 (fun x => [.bool x]) (fun _ => rfl) (fun _ => onesC rfl onesN)
structure Ref where
  fTx : Int
  fAt : Int
instance : Inhabited Ref := ⟨⟨default, default⟩⟩
abbrev kRef : Kd Ref := Kd.plain 2 (fun x => [.int .i64 x.fTx, .int .i64 x.fAt]) (fun _ => rfl) (fun _ => (onesC rfl (onesC rfl onesN)))
structure Member where
  fKey : Int
  fRef : Ref
instance : Inhabited Member := ⟨⟨default, default⟩⟩
abbrev kMember : Kd Member := Kd.plain 3 (fun x => [.int .i64 x.fKey, .int .i64 x.fRef.fTx, .int .i64 x.fRef.fAt]) (fun _ => rfl) (fun _ => (onesC rfl (onesC rfl (onesC rfl onesN))))
structure MembersResult where
  fCode : Int
  fMembers : List Member
instance : Inhabited MembersResult := ⟨⟨default, default⟩⟩
theorem tsz2 : tsz Try.prog 2 = some 1 := by kernel_rfl
theorem tby2 : tby Try.prog 2 = some 8 := by kernel_rfl
theorem tz2 : tzero Try.prog 2 = some (.int .i64 0) := by kernel_rfl
theorem tsz3 : tsz Try.prog 3 = some 1 := by kernel_rfl
theorem tby3 : tby Try.prog 3 = some 8 := by kernel_rfl
theorem tz3 : tzero Try.prog 3 = some (.int .i64 0) := by kernel_rfl
theorem tsz4 : tsz Try.prog 4 = some 1 := by kernel_rfl
theorem tby4 : tby Try.prog 4 = some 1 := by kernel_rfl
theorem tz4 : tzero Try.prog 4 = some (.bool false) := by kernel_rfl
theorem tsz44 : tsz Try.prog 44 = some 1 := by kernel_rfl
theorem tby44 : tby Try.prog 44 = some 24 := by kernel_rfl
theorem tz44 : tzero Try.prog 44 = some (.slice none 0 0) := by kernel_rfl
theorem tsz49 : tsz Try.prog 49 = some 1 := by kernel_rfl
theorem tby49 : tby Try.prog 49 = some 24 := by kernel_rfl
theorem tz49 : tzero Try.prog 49 = some (.slice none 0 0) := by kernel_rfl
theorem tsz85 : tsz Try.prog 85 = some 2 := by kernel_rfl
theorem tby85 : tby Try.prog 85 = some 32 := by kernel_rfl
theorem tz85 : tzero Try.prog 85 = some (.agg #[(.int .i64 0), (.slice none 0 0)]) := by kernel_rfl
theorem tsz92 : tsz Try.prog 92 = some 2 := by kernel_rfl
theorem tby92 : tby Try.prog 92 = some 16 := by kernel_rfl
theorem tz92 : tzero Try.prog 92 = some (.agg #[(.int .i64 0), (.int .i64 0)]) := by kernel_rfl
theorem tsz99 : tsz Try.prog 99 = some 2 := by kernel_rfl
theorem tby99 : tby Try.prog 99 = some 16 := by kernel_rfl
theorem tz99 : tzero Try.prog 99 = some (.agg #[(.int .i64 0), (.int .i64 0)]) := by kernel_rfl
theorem tsz144 : tsz Try.prog 144 = some 3 := by kernel_rfl
theorem tby144 : tby Try.prog 144 = some 24 := by kernel_rfl
theorem tz144 : tzero Try.prog 144 = some (.agg #[(.int .i64 0), (.int .i64 0), (.int .i64 0)]) := by kernel_rfl
theorem tsz147 : tsz Try.prog 147 = some 3 := by kernel_rfl
theorem tby147 : tby Try.prog 147 = some 24 := by kernel_rfl
theorem tz147 : tzero Try.prog 147 = some (.agg #[(.int .i64 0), (.int .i64 0), (.int .i64 0)]) := by kernel_rfl
theorem tsz189 : tsz Try.prog 189 = some 1 := by kernel_rfl
theorem tby189 : tby Try.prog 189 = some 8 := by kernel_rfl
theorem tz189 : tzero Try.prog 189 = some (.int .u64 0) := by kernel_rfl
theorem mixed : Try.prog.follows .mixedOrders = true := by kernel_rfl
theorem callok48 : CallOK Try.prog 48 := ⟨_, Try.func48, rfl, rfl⟩
theorem callok50 : CallOK Try.prog 50 := ⟨_, Try.func50, rfl, rfl⟩
theorem callok53 : CallOK Try.prog 53 := ⟨_, Try.func53, rfl, rfl⟩
theorem callok54 : CallOK Try.prog 54 := ⟨_, Try.func54, rfl, rfl⟩
theorem callok57 : CallOK Try.prog 57 := ⟨_, Try.func57, rfl, rfl⟩
theorem callok58 : CallOK Try.prog 58 := ⟨_, Try.func58, rfl, rfl⟩
theorem callok59 : CallOK Try.prog 59 := ⟨_, Try.func59, rfl, rfl⟩
theorem callok60 : CallOK Try.prog 60 := ⟨_, Try.func60, rfl, rfl⟩
theorem callok61 : CallOK Try.prog 61 := ⟨_, Try.func61, rfl, rfl⟩
theorem callok79 : CallOK Try.prog 79 := ⟨_, Try.func79, rfl, rfl⟩
theorem callok81 : CallOK Try.prog 81 := ⟨_, Try.func81, rfl, rfl⟩
theorem callok86 : CallOK Try.prog 86 := ⟨_, Try.func86, rfl, rfl⟩
theorem callok98 : CallOK Try.prog 98 := ⟨_, Try.func98, rfl, rfl⟩
theorem callok109 : CallOK Try.prog 109 := ⟨_, Try.func109, rfl, rfl⟩
theorem callok111 : CallOK Try.prog 111 := ⟨_, Try.func111, rfl, rfl⟩
theorem callok114 : CallOK Try.prog 114 := ⟨_, Try.func114, rfl, rfl⟩
theorem callok117 : CallOK Try.prog 117 := ⟨_, Try.func117, rfl, rfl⟩
theorem callok118 : CallOK Try.prog 118 := ⟨_, Try.func118, rfl, rfl⟩
theorem callok119 : CallOK Try.prog 119 := ⟨_, Try.func119, rfl, rfl⟩
theorem callok122 : CallOK Try.prog 122 := ⟨_, Try.func122, rfl, rfl⟩
theorem callok124 : CallOK Try.prog 124 := ⟨_, Try.func124, rfl, rfl⟩
theorem callok127 : CallOK Try.prog 127 := ⟨_, Try.func127, rfl, rfl⟩
theorem callok131 : CallOK Try.prog 131 := ⟨_, Try.func131, rfl, rfl⟩
theorem callok135 : CallOK Try.prog 135 := ⟨_, Try.func135, rfl, rfl⟩
theorem callok136 : CallOK Try.prog 136 := ⟨_, Try.func136, rfl, rfl⟩
theorem callok137 : CallOK Try.prog 137 := ⟨_, Try.func137, rfl, rfl⟩
theorem callok145 : CallOK Try.prog 145 := ⟨_, Try.func145, rfl, rfl⟩
theorem callok146 : CallOK Try.prog 146 := ⟨_, Try.func146, rfl, rfl⟩
theorem callok154 : CallOK Try.prog 154 := ⟨_, Try.func154, rfl, rfl⟩
theorem callok155 : CallOK Try.prog 155 := ⟨_, Try.func155, rfl, rfl⟩
theorem callok164 : CallOK Try.prog 164 := ⟨_, Try.func164, rfl, rfl⟩
theorem callok166 : CallOK Try.prog 166 := ⟨_, Try.func166, rfl, rfl⟩
theorem eqs99 (w : World) (a0 : Int) (a1 : Int) (b0 : Int) (b1 : Int) : (Op.equalIn 10000 99 (.agg #[.int .i64 a0, .int .i64 a1]) (.agg #[.int .i64 b0, .int .i64 b1])).run Try.prog w = .ok ((a0 == b0) && (a1 == b1)) w :=
  ((eqA Try.underlying99 (by kernel_rfl) (eqF_more rfl (part1 Try.underlying2 rfl rfl) (part1 Try.underlying2 rfl rfl) (run_equalIn_int _ _ _ _ _ _ _ Try.underlying2) (eqF_one rfl (part1 Try.underlying2 rfl rfl) (part1 Try.underlying2 rfl rfl) (run_equalIn_int _ _ _ _ _ _ _ Try.underlying2)))) : (Op.equalIn (9998 + 2) 99 (.agg #[.int .i64 a0, .int .i64 a1]) (.agg #[.int .i64 b0, .int .i64 b1])).run Try.prog w = .ok ((a0 == b0) && (a1 == b1)) w)
end Go.Proofs.Ytoiacoiccpiciaa.Zk
