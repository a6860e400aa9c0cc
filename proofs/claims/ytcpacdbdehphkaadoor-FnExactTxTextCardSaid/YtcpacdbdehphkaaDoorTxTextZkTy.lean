/- The data of the program, its types' facts. No condition. -/
import Derived.Test.YtcpacdbdehphkaaDoorProg
import Derived.Test.YtcpacdbdehphkaaDoorZkP
namespace Go.Proofs.YtcpacdbdehphkaaDoor.Zk
open Go Go.RowKit Go.IntWalk Go.Proofs
set_option linter.unusedVariables false
set_option linter.unusedSimpArgs false
set_option maxRecDepth 100000
theorem one1 {P : Value → Prop} {a : Value} (h : P a) : ∀ u ∈ [a], P u := by intro u hu; cases hu with | head => exact h | tail _ h => cases h
theorem onesC {a : Value} {l : List Value} (h : a.oneCell' = true) (hl : ∀ u ∈ l, u.oneCell' = true) : ∀ u ∈ a :: l, u.oneCell' = true := by intro u hu; cases hu with | head => exact h | tail _ h => exact hl u h
theorem onesN : ∀ u ∈ ([] : List Value), u.oneCell' = true := by intro u hu; cases hu
abbrev kInt : Kd Int := Kd.plain 1 (fun x => [.int .i64 x]) (fun _ => rfl) (fun _ => onesC rfl onesN)
abbrev kU8 : Kd Int := Kd.plain 1 (fun x => [.int .u8 x]) (fun _ => rfl) (fun _ => onesC rfl onesN)
abbrev kStr : Kd ByteArray := Kd.plain 1 (fun x => [.string x]) (fun _ => rfl) (fun _ => onesC rfl onesN)
abbrev kBool : Kd Bool := Kd.plain 1 (fun x => [.bool x]) (fun _ => rfl) (fun _ => onesC rfl onesN)
structure Ref where
  fTx : Int
  fAt : Int
instance : Inhabited Ref := ⟨⟨default, default⟩⟩
abbrev kRef : Kd Ref := Kd.plain 2 (fun x => [.int .i64 x.fTx, .int .i64 x.fAt]) (fun _ => rfl) (fun _ => (onesC rfl (onesC rfl onesN)))
structure Rule where
  fKeys : List Int
  fNeed : Int
  fAfter : Int
instance : Inhabited Rule := ⟨⟨default, default, default⟩⟩
abbrev kRule : Kd Rule := Kd.with1 3 (fun x v => [v, .int .i64 x.fNeed, .int .i64 x.fAfter]) (fun x => x.fKeys) kInt 2 (fun _ _ => rfl) (fun _ _ _ _ => (onesC rfl (onesC rfl (onesC rfl onesN))))
structure Out where
  fValue : Int
  fRule : Rule
instance : Inhabited Out := ⟨⟨default, default⟩⟩
abbrev kOut : Kd Out := Kd.with1 4 (fun x v => [.int .i64 x.fValue, v, .int .i64 x.fRule.fNeed, .int .i64 x.fRule.fAfter]) (fun x => x.fRule.fKeys) kInt 2 (fun _ _ => rfl) (fun _ _ _ _ => (onesC rfl (onesC rfl (onesC rfl (onesC rfl onesN)))))
structure Tx where
  fKind : Int
  fMember : Int
  fIns : List Ref
  fOuts : List Out
instance : Inhabited Tx := ⟨⟨default, default, default, default⟩⟩
structure TextResult where
  fCode : Int
  fText : ByteArray
instance : Inhabited TextResult := ⟨⟨default, default⟩⟩
abbrev kTextResult : Kd TextResult := Kd.plain 2 (fun x => [.int .i64 x.fCode, .string x.fText]) (fun _ => rfl) (fun _ => (onesC rfl (onesC rfl onesN)))
theorem tsz2 : tsz Tryd.prog 2 = some 1 := by kernel_rfl
theorem tby2 : tby Tryd.prog 2 = some 8 := by kernel_rfl
theorem tz2 : tzero Tryd.prog 2 = some (.int .i64 0) := by kernel_rfl
theorem tsz3 : tsz Tryd.prog 3 = some 1 := by kernel_rfl
theorem tby3 : tby Tryd.prog 3 = some 8 := by kernel_rfl
theorem tz3 : tzero Tryd.prog 3 = some (.int .i64 0) := by kernel_rfl
theorem tsz4 : tsz Tryd.prog 4 = some 1 := by kernel_rfl
theorem tby4 : tby Tryd.prog 4 = some 1 := by kernel_rfl
theorem tz4 : tzero Tryd.prog 4 = some (.bool false) := by kernel_rfl
theorem tsz5 : tsz Tryd.prog 5 = some 1 := by kernel_rfl
theorem tby5 : tby Tryd.prog 5 = some 1 := by kernel_rfl
theorem tz5 : tzero Tryd.prog 5 = some (.int .u8 0) := by kernel_rfl
theorem tsz9 : tsz Tryd.prog 9 = some 1 := by kernel_rfl
theorem tby9 : tby Tryd.prog 9 = some 16 := by kernel_rfl
theorem tz9 : tzero Tryd.prog 9 = some (.string ⟨#[]⟩) := by kernel_rfl
theorem tsz22 : tsz Tryd.prog 22 = some 1 := by kernel_rfl
theorem tby22 : tby Tryd.prog 22 = some 24 := by kernel_rfl
theorem tz22 : tzero Tryd.prog 22 = some (.slice none 0 0) := by kernel_rfl
theorem tsz23 : tsz Tryd.prog 23 = some 1 := by kernel_rfl
theorem tby23 : tby Tryd.prog 23 = some 24 := by kernel_rfl
theorem tz23 : tzero Tryd.prog 23 = some (.slice none 0 0) := by kernel_rfl
theorem tsz25 : tsz Tryd.prog 25 = some 4 := by kernel_rfl
theorem tby25 : tby Tryd.prog 25 = some 64 := by kernel_rfl
theorem tz25 : tzero Tryd.prog 25 = some (.agg #[(.int .i64 0), (.int .i64 0), (.slice none 0 0), (.slice none 0 0)]) := by kernel_rfl
theorem tsz28 : tsz Tryd.prog 28 = some 2 := by kernel_rfl
theorem tby28 : tby Tryd.prog 28 = some 24 := by kernel_rfl
theorem tz28 : tzero Tryd.prog 28 = some (.agg #[(.int .i64 0), (.string ⟨#[]⟩)]) := by kernel_rfl
theorem tsz30 : tsz Tryd.prog 30 = some 1 := by kernel_rfl
theorem tby30 : tby Tryd.prog 30 = some 24 := by kernel_rfl
theorem tz30 : tzero Tryd.prog 30 = some (.slice none 0 0) := by kernel_rfl
theorem tsz31 : tsz Tryd.prog 31 = some 1 := by kernel_rfl
theorem tby31 : tby Tryd.prog 31 = some 24 := by kernel_rfl
theorem tz31 : tzero Tryd.prog 31 = some (.slice none 0 0) := by kernel_rfl
theorem tsz33 : tsz Tryd.prog 33 = some 4 := by kernel_rfl
theorem tby33 : tby Tryd.prog 33 = some 64 := by kernel_rfl
theorem tz33 : tzero Tryd.prog 33 = some (.agg #[(.int .i64 0), (.int .i64 0), (.slice none 0 0), (.slice none 0 0)]) := by kernel_rfl
theorem tsz38 : tsz Tryd.prog 38 = some 1 := by kernel_rfl
theorem tby38 : tby Tryd.prog 38 = some 24 := by kernel_rfl
theorem tz38 : tzero Tryd.prog 38 = some (.slice none 0 0) := by kernel_rfl
theorem tsz40 : tsz Tryd.prog 40 = some 3 := by kernel_rfl
theorem tby40 : tby Tryd.prog 40 = some 40 := by kernel_rfl
theorem tz40 : tzero Tryd.prog 40 = some (.agg #[(.slice none 0 0), (.int .i64 0), (.int .i64 0)]) := by kernel_rfl
theorem tsz47 : tsz Tryd.prog 47 = some 1 := by kernel_rfl
theorem tby47 : tby Tryd.prog 47 = some 24 := by kernel_rfl
theorem tz47 : tzero Tryd.prog 47 = some (.slice none 0 0) := by kernel_rfl
theorem tsz66 : tsz Tryd.prog 66 = some 1 := by kernel_rfl
theorem tsz96 : tsz Tryd.prog 96 = some 3 := by kernel_rfl
theorem tby96 : tby Tryd.prog 96 = some 40 := by kernel_rfl
theorem tz96 : tzero Tryd.prog 96 = some (.agg #[(.slice none 0 0), (.int .i64 0), (.int .i64 0)]) := by kernel_rfl
theorem tsz98 : tsz Tryd.prog 98 = some 4 := by kernel_rfl
theorem tby98 : tby Tryd.prog 98 = some 48 := by kernel_rfl
theorem tz98 : tzero Tryd.prog 98 = some (.agg #[(.int .i64 0), (.slice none 0 0), (.int .i64 0), (.int .i64 0)]) := by kernel_rfl
theorem tsz101 : tsz Tryd.prog 101 = some 2 := by kernel_rfl
theorem tby101 : tby Tryd.prog 101 = some 16 := by kernel_rfl
theorem tz101 : tzero Tryd.prog 101 = some (.agg #[(.int .i64 0), (.int .i64 0)]) := by kernel_rfl
theorem tsz103 : tsz Tryd.prog 103 = some 1 := by kernel_rfl
theorem tby103 : tby Tryd.prog 103 = some 24 := by kernel_rfl
theorem tz103 : tzero Tryd.prog 103 = some (.slice none 0 0) := by kernel_rfl
theorem tsz106 : tsz Tryd.prog 106 = some 4 := by kernel_rfl
theorem tby106 : tby Tryd.prog 106 = some 48 := by kernel_rfl
theorem tz106 : tzero Tryd.prog 106 = some (.agg #[(.int .i64 0), (.slice none 0 0), (.int .i64 0), (.int .i64 0)]) := by kernel_rfl
theorem tsz109 : tsz Tryd.prog 109 = some 1 := by kernel_rfl
theorem tsz111 : tsz Tryd.prog 111 = some 2 := by kernel_rfl
theorem tby111 : tby Tryd.prog 111 = some 16 := by kernel_rfl
theorem tz111 : tzero Tryd.prog 111 = some (.agg #[(.int .i64 0), (.int .i64 0)]) := by kernel_rfl
theorem mixed : Tryd.prog.follows .mixedOrders = true := by kernel_rfl
theorem callok6 : CallOK Tryd.prog 6 := ⟨_, Tryd.func6, rfl, rfl⟩
theorem callok7 : CallOK Tryd.prog 7 := ⟨_, Tryd.func7, rfl, rfl⟩
theorem callok8 : CallOK Tryd.prog 8 := ⟨_, Tryd.func8, rfl, rfl⟩
theorem callok9 : CallOK Tryd.prog 9 := ⟨_, Tryd.func9, rfl, rfl⟩
theorem callok10 : CallOK Tryd.prog 10 := ⟨_, Tryd.func10, rfl, rfl⟩
theorem callok11 : CallOK Tryd.prog 11 := ⟨_, Tryd.func11, rfl, rfl⟩
theorem callok29 : CallOK Tryd.prog 29 := ⟨_, Tryd.func29, rfl, rfl⟩
theorem callok30 : CallOK Tryd.prog 30 := ⟨_, Tryd.func30, rfl, rfl⟩
theorem callok31 : CallOK Tryd.prog 31 := ⟨_, Tryd.func31, rfl, rfl⟩
theorem callok32 : CallOK Tryd.prog 32 := ⟨_, Tryd.func32, rfl, rfl⟩
theorem callok33 : CallOK Tryd.prog 33 := ⟨_, Tryd.func33, rfl, rfl⟩
theorem callok34 : CallOK Tryd.prog 34 := ⟨_, Tryd.func34, rfl, rfl⟩
theorem callok35 : CallOK Tryd.prog 35 := ⟨_, Tryd.func35, rfl, rfl⟩
theorem callok36 : CallOK Tryd.prog 36 := ⟨_, Tryd.func36, rfl, rfl⟩
theorem callok37 : CallOK Tryd.prog 37 := ⟨_, Tryd.func37, rfl, rfl⟩
theorem callok38 : CallOK Tryd.prog 38 := ⟨_, Tryd.func38, rfl, rfl⟩
theorem callok41 : CallOK Tryd.prog 41 := ⟨_, Tryd.func41, rfl, rfl⟩
theorem callok54 : CallOK Tryd.prog 54 := ⟨_, Tryd.func54, rfl, rfl⟩
theorem callok55 : CallOK Tryd.prog 55 := ⟨_, Tryd.func55, rfl, rfl⟩
theorem callok56 : CallOK Tryd.prog 56 := ⟨_, Tryd.func56, rfl, rfl⟩
theorem callok59 : CallOK Tryd.prog 59 := ⟨_, Tryd.func59, rfl, rfl⟩
theorem callok61 : CallOK Tryd.prog 61 := ⟨_, Tryd.func61, rfl, rfl⟩
theorem callok62 : CallOK Tryd.prog 62 := ⟨_, Tryd.func62, rfl, rfl⟩
theorem callok63 : CallOK Tryd.prog 63 := ⟨_, Tryd.func63, rfl, rfl⟩
theorem callok64 : CallOK Tryd.prog 64 := ⟨_, Tryd.func64, rfl, rfl⟩
theorem callok65 : CallOK Tryd.prog 65 := ⟨_, Tryd.func65, rfl, rfl⟩
theorem callok66 : CallOK Tryd.prog 66 := ⟨_, Tryd.func66, rfl, rfl⟩
theorem callok67 : CallOK Tryd.prog 67 := ⟨_, Tryd.func67, rfl, rfl⟩
theorem callok68 : CallOK Tryd.prog 68 := ⟨_, Tryd.func68, rfl, rfl⟩
theorem callok69 : CallOK Tryd.prog 69 := ⟨_, Tryd.func69, rfl, rfl⟩
theorem callok70 : CallOK Tryd.prog 70 := ⟨_, Tryd.func70, rfl, rfl⟩
theorem callok71 : CallOK Tryd.prog 71 := ⟨_, Tryd.func71, rfl, rfl⟩
theorem callok72 : CallOK Tryd.prog 72 := ⟨_, Tryd.func72, rfl, rfl⟩
theorem callok73 : CallOK Tryd.prog 73 := ⟨_, Tryd.func73, rfl, rfl⟩
theorem callok74 : CallOK Tryd.prog 74 := ⟨_, Tryd.func74, rfl, rfl⟩
theorem callok75 : CallOK Tryd.prog 75 := ⟨_, Tryd.func75, rfl, rfl⟩
theorem callok76 : CallOK Tryd.prog 76 := ⟨_, Tryd.func76, rfl, rfl⟩
theorem callok77 : CallOK Tryd.prog 77 := ⟨_, Tryd.func77, rfl, rfl⟩
theorem callok78 : CallOK Tryd.prog 78 := ⟨_, Tryd.func78, rfl, rfl⟩
theorem callok79 : CallOK Tryd.prog 79 := ⟨_, Tryd.func79, rfl, rfl⟩
theorem callok80 : CallOK Tryd.prog 80 := ⟨_, Tryd.func80, rfl, rfl⟩
theorem callok83 : CallOK Tryd.prog 83 := ⟨_, Tryd.func83, rfl, rfl⟩
theorem callok87 : CallOK Tryd.prog 87 := ⟨_, Tryd.func87, rfl, rfl⟩
theorem callok88 : CallOK Tryd.prog 88 := ⟨_, Tryd.func88, rfl, rfl⟩
theorem callok92 : CallOK Tryd.prog 92 := ⟨_, Tryd.func92, rfl, rfl⟩
theorem callok94 : CallOK Tryd.prog 94 := ⟨_, Tryd.func94, rfl, rfl⟩
theorem callok95 : CallOK Tryd.prog 95 := ⟨_, Tryd.func95, rfl, rfl⟩
theorem callok96 : CallOK Tryd.prog 96 := ⟨_, Tryd.func96, rfl, rfl⟩
theorem callok97 : CallOK Tryd.prog 97 := ⟨_, Tryd.func97, rfl, rfl⟩
theorem callok101 : CallOK Tryd.prog 101 := ⟨_, Tryd.func101, rfl, rfl⟩
theorem callok104 : CallOK Tryd.prog 104 := ⟨_, Tryd.func104, rfl, rfl⟩
theorem callok105 : CallOK Tryd.prog 105 := ⟨_, Tryd.func105, rfl, rfl⟩
theorem callok106 : CallOK Tryd.prog 106 := ⟨_, Tryd.func106, rfl, rfl⟩
theorem callok107 : CallOK Tryd.prog 107 := ⟨_, Tryd.func107, rfl, rfl⟩
theorem callok108 : CallOK Tryd.prog 108 := ⟨_, Tryd.func108, rfl, rfl⟩
theorem callok117 : CallOK Tryd.prog 117 := ⟨_, Tryd.func117, rfl, rfl⟩
theorem callok118 : CallOK Tryd.prog 118 := ⟨_, Tryd.func118, rfl, rfl⟩
theorem callok134 : CallOK Tryd.prog 134 := ⟨_, Tryd.func134, rfl, rfl⟩
theorem eqs101 (w : World) (a0 : Int) (a1 : Int) (b0 : Int) (b1 : Int) : (Op.equalIn 10000 101 (.agg #[.int .i64 a0, .int .i64 a1]) (.agg #[.int .i64 b0, .int .i64 b1])).run Tryd.prog w = .ok ((a0 == b0) && (a1 == b1)) w :=
  ((eqA Tryd.underlying101 (by kernel_rfl) (eqF_more rfl (part1 Tryd.underlying2 rfl rfl) (part1 Tryd.underlying2 rfl rfl) (run_equalIn_int _ _ _ _ _ _ _ Tryd.underlying2) (eqF_one rfl (part1 Tryd.underlying2 rfl rfl) (part1 Tryd.underlying2 rfl rfl) (run_equalIn_int _ _ _ _ _ _ _ Tryd.underlying2)))) : (Op.equalIn (9998 + 2) 101 (.agg #[.int .i64 a0, .int .i64 a1]) (.agg #[.int .i64 b0, .int .i64 b1])).run Tryd.prog w = .ok ((a0 == b0) && (a1 == b1)) w)
end Go.Proofs.YtcpacdbdehphkaaDoor.Zk
