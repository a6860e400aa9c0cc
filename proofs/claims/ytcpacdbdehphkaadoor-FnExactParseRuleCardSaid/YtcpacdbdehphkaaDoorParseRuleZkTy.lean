/- The data of the program, its types' facts. No condition. -/
import Derived.Test.YtcpacdbdehphkaaDoorProg
import Derived.Test.YtcpacdbdehphkaaDoorZkP
namespace Go.Proofs.YtcpacdbdehphkaaDoor.Zk
open Go Go.RowKit Go.IntWalk Go.Proofs
set_option linter.unusedVariables false
set_option linter.unusedSimpArgs false
set_option maxRecDepth 100000
theorem one1 {P : Value → Prop} {a : Value} (h : P a) : ∀ u ∈ [a], P u := by intro u hu; cases hu with | head => exact h | tail _ h => cases h
theorem onesC {a : Value} {l : List Value} (h : a.oneCell' = true) (hl : ∀ u ∈ l, u.oneCell' = true) : ∀ u ∈ a :: l, u.oneCell' = true := by intro u hu; cases hu with | head => exact h | tail _ h => exact hl u h
theorem onesN : ∀ u ∈ ([] : List Value), u.oneCell' = true := by intro u hu; cases hu
abbrev kInt : Kd Int := Kd.plain 1 (fun x => [.int .i64 x]) (fun _ => rfl) (fun _ => onesC rfl onesN)
abbrev kU8 : Kd Int := Kd.plain 1 (fun x => [.int .u8 x]) (fun _ => rfl) (fun _ => onesC rfl onesN)
abbrev kStr : Kd ByteArray := Kd.plain 1 (fun x => [.string x]) (fun _ => rfl) (fun _ => onesC rfl onesN)
abbrev kBool : Kd Bool := Kd.plain 1 (fun x => [.bool x]) (fun _ => rfl) (fun _ => onesC rfl onesN)
structure Rule where
  fKeys : List Int
  fNeed : Int
  fAfter : Int
instance : Inhabited Rule := ⟨⟨default, default, default⟩⟩
abbrev kRule : Kd Rule := Kd.with1 3 (fun x v => [v, .int .i64 x.fNeed, .int .i64 x.fAfter]) (fun x => x.fKeys) kInt 2 (fun _ _ => rfl) (fun _ _ _ _ => (onesC rfl (onesC rfl (onesC rfl onesN))))
structure RuleResult where
  fCode : Int
  fRule : Rule
instance : Inhabited RuleResult := ⟨⟨default, default⟩⟩
theorem tsz2 : tsz Tryd.prog 2 = some 1 := by kernel_rfl
theorem tby2 : tby Tryd.prog 2 = some 8 := by kernel_rfl
theorem tz2 : tzero Tryd.prog 2 = some (.int .i64 0) := by kernel_rfl
theorem tsz3 : tsz Tryd.prog 3 = some 1 := by kernel_rfl
theorem tby3 : tby Tryd.prog 3 = some 8 := by kernel_rfl
theorem tz3 : tzero Tryd.prog 3 = some (.int .i64 0) := by kernel_rfl
theorem tsz4 : tsz Tryd.prog 4 = some 1 := by kernel_rfl
theorem tby4 : tby Tryd.prog 4 = some 1 := by kernel_rfl
theorem tz4 : tzero Tryd.prog 4 = some (.bool false) := by kernel_rfl
theorem tsz5 : tsz Tryd.prog 5 = some 1 := by kernel_rfl
theorem tby5 : tby Tryd.prog 5 = some 1 := by kernel_rfl
theorem tz5 : tzero Tryd.prog 5 = some (.int .u8 0) := by kernel_rfl
theorem tsz9 : tsz Tryd.prog 9 = some 1 := by kernel_rfl
theorem tby9 : tby Tryd.prog 9 = some 16 := by kernel_rfl
theorem tz9 : tzero Tryd.prog 9 = some (.string ⟨#[]⟩) := by kernel_rfl
theorem tsz38 : tsz Tryd.prog 38 = some 1 := by kernel_rfl
theorem tby38 : tby Tryd.prog 38 = some 24 := by kernel_rfl
theorem tz38 : tzero Tryd.prog 38 = some (.slice none 0 0) := by kernel_rfl
theorem tsz40 : tsz Tryd.prog 40 = some 3 := by kernel_rfl
theorem tby40 : tby Tryd.prog 40 = some 40 := by kernel_rfl
theorem tz40 : tzero Tryd.prog 40 = some (.agg #[(.slice none 0 0), (.int .i64 0), (.int .i64 0)]) := by kernel_rfl
theorem tsz42 : tsz Tryd.prog 42 = some 4 := by kernel_rfl
theorem tby42 : tby Tryd.prog 42 = some 48 := by kernel_rfl
theorem tz42 : tzero Tryd.prog 42 = some (.agg #[(.int .i64 0), (.slice none 0 0), (.int .i64 0), (.int .i64 0)]) := by kernel_rfl
theorem tsz103 : tsz Tryd.prog 103 = some 1 := by kernel_rfl
theorem tby103 : tby Tryd.prog 103 = some 24 := by kernel_rfl
theorem tz103 : tzero Tryd.prog 103 = some (.slice none 0 0) := by kernel_rfl
theorem tsz109 : tsz Tryd.prog 109 = some 1 := by kernel_rfl
theorem tsz143 : tsz Tryd.prog 143 = some 1 := by kernel_rfl
theorem mixed : Tryd.prog.follows .mixedOrders = true := by kernel_rfl
theorem callok12 : CallOK Tryd.prog 12 := ⟨_, Tryd.func12, rfl, rfl⟩
theorem callok13 : CallOK Tryd.prog 13 := ⟨_, Tryd.func13, rfl, rfl⟩
theorem callok14 : CallOK Tryd.prog 14 := ⟨_, Tryd.func14, rfl, rfl⟩
theorem callok15 : CallOK Tryd.prog 15 := ⟨_, Tryd.func15, rfl, rfl⟩
theorem callok16 : CallOK Tryd.prog 16 := ⟨_, Tryd.func16, rfl, rfl⟩
theorem callok39 : CallOK Tryd.prog 39 := ⟨_, Tryd.func39, rfl, rfl⟩
theorem callok40 : CallOK Tryd.prog 40 := ⟨_, Tryd.func40, rfl, rfl⟩
theorem callok41 : CallOK Tryd.prog 41 := ⟨_, Tryd.func41, rfl, rfl⟩
theorem callok42 : CallOK Tryd.prog 42 := ⟨_, Tryd.func42, rfl, rfl⟩
theorem callok43 : CallOK Tryd.prog 43 := ⟨_, Tryd.func43, rfl, rfl⟩
theorem callok54 : CallOK Tryd.prog 54 := ⟨_, Tryd.func54, rfl, rfl⟩
theorem callok55 : CallOK Tryd.prog 55 := ⟨_, Tryd.func55, rfl, rfl⟩
theorem callok59 : CallOK Tryd.prog 59 := ⟨_, Tryd.func59, rfl, rfl⟩
theorem callok62 : CallOK Tryd.prog 62 := ⟨_, Tryd.func62, rfl, rfl⟩
theorem callok76 : CallOK Tryd.prog 76 := ⟨_, Tryd.func76, rfl, rfl⟩
theorem callok77 : CallOK Tryd.prog 77 := ⟨_, Tryd.func77, rfl, rfl⟩
theorem callok78 : CallOK Tryd.prog 78 := ⟨_, Tryd.func78, rfl, rfl⟩
theorem callok81 : CallOK Tryd.prog 81 := ⟨_, Tryd.func81, rfl, rfl⟩
theorem callok82 : CallOK Tryd.prog 82 := ⟨_, Tryd.func82, rfl, rfl⟩
theorem callok83 : CallOK Tryd.prog 83 := ⟨_, Tryd.func83, rfl, rfl⟩
theorem callok84 : CallOK Tryd.prog 84 := ⟨_, Tryd.func84, rfl, rfl⟩
theorem callok85 : CallOK Tryd.prog 85 := ⟨_, Tryd.func85, rfl, rfl⟩
theorem callok86 : CallOK Tryd.prog 86 := ⟨_, Tryd.func86, rfl, rfl⟩
theorem callok87 : CallOK Tryd.prog 87 := ⟨_, Tryd.func87, rfl, rfl⟩
theorem callok88 : CallOK Tryd.prog 88 := ⟨_, Tryd.func88, rfl, rfl⟩
theorem callok89 : CallOK Tryd.prog 89 := ⟨_, Tryd.func89, rfl, rfl⟩
theorem callok90 : CallOK Tryd.prog 90 := ⟨_, Tryd.func90, rfl, rfl⟩
theorem callok92 : CallOK Tryd.prog 92 := ⟨_, Tryd.func92, rfl, rfl⟩
theorem callok97 : CallOK Tryd.prog 97 := ⟨_, Tryd.func97, rfl, rfl⟩
theorem callok101 : CallOK Tryd.prog 101 := ⟨_, Tryd.func101, rfl, rfl⟩
theorem callok103 : CallOK Tryd.prog 103 := ⟨_, Tryd.func103, rfl, rfl⟩
theorem callok104 : CallOK Tryd.prog 104 := ⟨_, Tryd.func104, rfl, rfl⟩
theorem callok105 : CallOK Tryd.prog 105 := ⟨_, Tryd.func105, rfl, rfl⟩
theorem callok106 : CallOK Tryd.prog 106 := ⟨_, Tryd.func106, rfl, rfl⟩
theorem callok117 : CallOK Tryd.prog 117 := ⟨_, Tryd.func117, rfl, rfl⟩
theorem callok118 : CallOK Tryd.prog 118 := ⟨_, Tryd.func118, rfl, rfl⟩
theorem callok134 : CallOK Tryd.prog 134 := ⟨_, Tryd.func134, rfl, rfl⟩

end Go.Proofs.YtcpacdbdehphkaaDoor.Zk
