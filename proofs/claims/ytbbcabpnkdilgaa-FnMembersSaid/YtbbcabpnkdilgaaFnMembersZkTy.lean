/- The data of the program, its types' facts. No condition. -/
import Derived.Test.YtbbcabpnkdilgaaProg
import Derived.Test.YtbbcabpnkdilgaaZkI
import Derived.Test.YtbbcabpnkdilgaaZkD
namespace Go.Proofs.Ytbbcabpnkdilgaa.Zk
open Go Go.RowKit Go.IntWalk Go.Proofs
set_option linter.unusedVariables false
set_option linter.unusedSimpArgs false
set_option maxRecDepth 100000
abbrev bs (n m : Nat) : Array Bool := ((List.range n).map fun i => Nat.testBit m i).toArray
theorem one1 {P : Value → Prop} {a : Value} (h : P a) : ∀ u ∈ [a], P u := by intro u hu; cases hu with | head => exact h | tail _ h => cases h
theorem onesC {a : Value} {l : List Value} (h : a.oneCell' = true) (hl : ∀ u ∈ l, u.oneCell' = true) : ∀ u ∈ a :: l, u.oneCell' = true := by intro u hu; cases hu with | head => exact h | tail _ h => exact hl u h
theorem onesN : ∀ u ∈ ([] : List Value), u.oneCell' = true := by intro u hu; cases hu
abbrev kInt : Kd Int := Kd.plain 1 (fun x => [.int .i64 x]) (fun _ => rfl) (fun _ => onesC rfl onesN)
abbrev kU8 : Kd Int := Kd.plain 1 (fun x => [.int .u8 x]) (fun _ => rfl) (fun _ => onesC rfl onesN)
abbrev kStr : Kd ByteArray := Kd.plain 1 (fun x => [.string x]) (fun _ => rfl) (fun _ => onesC rfl onesN)
abbrev kBool : Kd Bool := Kd.plain 1 (fun x => [.bool x]) (fun _ => rfl) (fun _ => onesC rfl onesN)
structure Ref where
  fTx : Int
  fAt : Int
instance : Inhabited Ref := ⟨⟨default, default⟩⟩
abbrev kRef : Kd Ref := Kd.plain 2 (fun x => [.int .i64 x.fTx, .int .i64 x.fAt]) (fun _ => rfl) (fun _ => (onesC rfl (onesC rfl onesN)))
structure Member where
  fKey : Int
  fRef : Ref
instance : Inhabited Member := ⟨⟨default, default⟩⟩
abbrev kMember : Kd Member := Kd.plain 3 (fun x => [.int .i64 x.fKey, .int .i64 x.fRef.fTx, .int .i64 x.fRef.fAt]) (fun _ => rfl) (fun _ => (onesC rfl (onesC rfl (onesC rfl onesN))))
structure Rule where
  fKeys : List Int
  fNeed : Int
  fAfter : Int
instance : Inhabited Rule := ⟨⟨default, default, default⟩⟩
abbrev kRule : Kd Rule := Kd.with1 3 (fun x v => [v, .int .i64 x.fNeed, .int .i64 x.fAfter]) (fun x => x.fKeys) kInt 2 (fun _ _ => rfl) (fun _ _ _ _ => (onesC rfl (onesC rfl (onesC rfl onesN))))
structure Out where
  fValue : Int
  fRule : Rule
instance : Inhabited Out := ⟨⟨default, default⟩⟩
abbrev kOut : Kd Out := Kd.with1 4 (fun x v => [.int .i64 x.fValue, v, .int .i64 x.fRule.fNeed, .int .i64 x.fRule.fAfter]) (fun x => x.fRule.fKeys) kInt 2 (fun _ _ => rfl) (fun _ _ _ _ => (onesC rfl (onesC rfl (onesC rfl (onesC rfl onesN)))))
structure Tx where
  fKind : Int
  fMember : Int
  fIns : List Ref
  fOuts : List Out
instance : Inhabited Tx := ⟨⟨default, default, default, default⟩⟩
structure l1Src where
  fCode : List Int
  fAt : Int
instance : Inhabited l1Src := ⟨⟨default, default⟩⟩
structure MembersResult where
  fCode : Int
  fMembers : List Member
instance : Inhabited MembersResult := ⟨⟨default, default⟩⟩
structure IntsResult where
  fCode : Int
  fList : List Int
instance : Inhabited IntsResult := ⟨⟨default, default⟩⟩
theorem tsz2 : tsz Try.prog 2 = some 1 := by kernel_rfl
theorem tby2 : tby Try.prog 2 = some 8 := by kernel_rfl
theorem tz2 : tzero Try.prog 2 = some (.int .i64 0) := by kernel_rfl
theorem tsz3 : tsz Try.prog 3 = some 1 := by kernel_rfl
theorem tby3 : tby Try.prog 3 = some 8 := by kernel_rfl
theorem tz3 : tzero Try.prog 3 = some (.int .i64 0) := by kernel_rfl
theorem tsz4 : tsz Try.prog 4 = some 1 := by kernel_rfl
theorem tby4 : tby Try.prog 4 = some 1 := by kernel_rfl
theorem tz4 : tzero Try.prog 4 = some (.bool false) := by kernel_rfl
theorem tsz5 : tsz Try.prog 5 = some 1 := by kernel_rfl
theorem tby5 : tby Try.prog 5 = some 1 := by kernel_rfl
theorem tz5 : tzero Try.prog 5 = some (.int .u8 0) := by kernel_rfl
theorem tsz22 : tsz Try.prog 22 = some 1 := by kernel_rfl
theorem tby22 : tby Try.prog 22 = some 24 := by kernel_rfl
theorem tz22 : tzero Try.prog 22 = some (.slice none 0 0) := by kernel_rfl
theorem tsz24 : tsz Try.prog 24 = some 1 := by kernel_rfl
theorem tby24 : tby Try.prog 24 = some 24 := by kernel_rfl
theorem tz24 : tzero Try.prog 24 = some (.slice none 0 0) := by kernel_rfl
theorem tsz25 : tsz Try.prog 25 = some 1 := by kernel_rfl
theorem tby25 : tby Try.prog 25 = some 24 := by kernel_rfl
theorem tz25 : tzero Try.prog 25 = some (.slice none 0 0) := by kernel_rfl
theorem tsz26 : tsz Try.prog 26 = some 1 := by kernel_rfl
theorem tby26 : tby Try.prog 26 = some 24 := by kernel_rfl
theorem tz26 : tzero Try.prog 26 = some (.slice none 0 0) := by kernel_rfl
theorem tsz28 : tsz Try.prog 28 = some 4 := by kernel_rfl
theorem tby28 : tby Try.prog 28 = some 64 := by kernel_rfl
theorem tz28 : tzero Try.prog 28 = some (.agg #[(.int .i64 0), (.int .i64 0), (.slice none 0 0), (.slice none 0 0)]) := by kernel_rfl
theorem tsz32 : tsz Try.prog 32 = some 2 := by kernel_rfl
theorem tby32 : tby Try.prog 32 = some 32 := by kernel_rfl
theorem tz32 : tzero Try.prog 32 = some (.agg #[(.int .i64 0), (.slice none 0 0)]) := by kernel_rfl
theorem tsz36 : tsz Try.prog 36 = some 2 := by kernel_rfl
theorem tby36 : tby Try.prog 36 = some 16 := by kernel_rfl
theorem tz36 : tzero Try.prog 36 = some (.agg #[(.int .i64 0), (.int .i64 0)]) := by kernel_rfl
theorem tsz38 : tsz Try.prog 38 = some 3 := by kernel_rfl
theorem tby38 : tby Try.prog 38 = some 24 := by kernel_rfl
theorem tz38 : tzero Try.prog 38 = some (.agg #[(.int .i64 0), (.int .i64 0), (.int .i64 0)]) := by kernel_rfl
theorem tsz39 : tsz Try.prog 39 = some 1 := by kernel_rfl
theorem tby39 : tby Try.prog 39 = some 24 := by kernel_rfl
theorem tz39 : tzero Try.prog 39 = some (.slice none 0 0) := by kernel_rfl
theorem tsz41 : tsz Try.prog 41 = some 2 := by kernel_rfl
theorem tby41 : tby Try.prog 41 = some 32 := by kernel_rfl
theorem tz41 : tzero Try.prog 41 = some (.agg #[(.int .i64 0), (.slice none 0 0)]) := by kernel_rfl
theorem tsz67 : tsz Try.prog 67 = some 3 := by kernel_rfl
theorem tby67 : tby Try.prog 67 = some 40 := by kernel_rfl
theorem tz67 : tzero Try.prog 67 = some (.agg #[(.slice none 0 0), (.int .i64 0), (.int .i64 0)]) := by kernel_rfl
theorem tsz69 : tsz Try.prog 69 = some 4 := by kernel_rfl
theorem tby69 : tby Try.prog 69 = some 48 := by kernel_rfl
theorem tz69 : tzero Try.prog 69 = some (.agg #[(.int .i64 0), (.slice none 0 0), (.int .i64 0), (.int .i64 0)]) := by kernel_rfl
theorem tsz91 : tsz Try.prog 91 = some 1 := by kernel_rfl
theorem tsz102 : tsz Try.prog 102 = some 1 := by kernel_rfl
theorem tsz150 : tsz Try.prog 150 = some 2 := by kernel_rfl
theorem tby150 : tby Try.prog 150 = some 32 := by kernel_rfl
theorem tz150 : tzero Try.prog 150 = some (.agg #[(.slice none 0 0), (.int .i64 0)]) := by kernel_rfl
theorem tsz168 : tsz Try.prog 168 = some 1 := by kernel_rfl
theorem tsz182 : tsz Try.prog 182 = some 1 := by kernel_rfl
theorem tby182 : tby Try.prog 182 = some 8 := by kernel_rfl
theorem tz182 : tzero Try.prog 182 = some (.int .u64 0) := by kernel_rfl
theorem mixed : Try.prog.follows .mixedOrders = true := by kernel_rfl
theorem callok7 : CallOK Try.prog 7 := ⟨_, Try.func7, rfl, rfl⟩
theorem callok8 : CallOK Try.prog 8 := ⟨_, Try.func8, rfl, rfl⟩
theorem callok9 : CallOK Try.prog 9 := ⟨_, Try.func9, rfl, rfl⟩
theorem callok10 : CallOK Try.prog 10 := ⟨_, Try.func10, rfl, rfl⟩
theorem callok11 : CallOK Try.prog 11 := ⟨_, Try.func11, rfl, rfl⟩
theorem callok12 : CallOK Try.prog 12 := ⟨_, Try.func12, rfl, rfl⟩
theorem callok13 : CallOK Try.prog 13 := ⟨_, Try.func13, rfl, rfl⟩
theorem callok14 : CallOK Try.prog 14 := ⟨_, Try.func14, rfl, rfl⟩
theorem callok47 : CallOK Try.prog 47 := ⟨_, Try.func47, rfl, rfl⟩
theorem callok48 : CallOK Try.prog 48 := ⟨_, Try.func48, rfl, rfl⟩
theorem callok49 : CallOK Try.prog 49 := ⟨_, Try.func49, rfl, rfl⟩
theorem callok50 : CallOK Try.prog 50 := ⟨_, Try.func50, rfl, rfl⟩
theorem callok51 : CallOK Try.prog 51 := ⟨_, Try.func51, rfl, rfl⟩
theorem callok52 : CallOK Try.prog 52 := ⟨_, Try.func52, rfl, rfl⟩
theorem callok53 : CallOK Try.prog 53 := ⟨_, Try.func53, rfl, rfl⟩
theorem callok54 : CallOK Try.prog 54 := ⟨_, Try.func54, rfl, rfl⟩
theorem callok55 : CallOK Try.prog 55 := ⟨_, Try.func55, rfl, rfl⟩
theorem callok56 : CallOK Try.prog 56 := ⟨_, Try.func56, rfl, rfl⟩
theorem callok57 : CallOK Try.prog 57 := ⟨_, Try.func57, rfl, rfl⟩
theorem callok58 : CallOK Try.prog 58 := ⟨_, Try.func58, rfl, rfl⟩
theorem callok59 : CallOK Try.prog 59 := ⟨_, Try.func59, rfl, rfl⟩
theorem callok60 : CallOK Try.prog 60 := ⟨_, Try.func60, rfl, rfl⟩
theorem callok61 : CallOK Try.prog 61 := ⟨_, Try.func61, rfl, rfl⟩
theorem callok62 : CallOK Try.prog 62 := ⟨_, Try.func62, rfl, rfl⟩
theorem callok63 : CallOK Try.prog 63 := ⟨_, Try.func63, rfl, rfl⟩
theorem callok64 : CallOK Try.prog 64 := ⟨_, Try.func64, rfl, rfl⟩
theorem callok65 : CallOK Try.prog 65 := ⟨_, Try.func65, rfl, rfl⟩
theorem callok66 : CallOK Try.prog 66 := ⟨_, Try.func66, rfl, rfl⟩
theorem callok76 : CallOK Try.prog 76 := ⟨_, Try.func76, rfl, rfl⟩
theorem callok79 : CallOK Try.prog 79 := ⟨_, Try.func79, rfl, rfl⟩
theorem callok88 : CallOK Try.prog 88 := ⟨_, Try.func88, rfl, rfl⟩
theorem callok89 : CallOK Try.prog 89 := ⟨_, Try.func89, rfl, rfl⟩
theorem callok90 : CallOK Try.prog 90 := ⟨_, Try.func90, rfl, rfl⟩
theorem callok103 : CallOK Try.prog 103 := ⟨_, Try.func103, rfl, rfl⟩
theorem callok104 : CallOK Try.prog 104 := ⟨_, Try.func104, rfl, rfl⟩
theorem callok105 : CallOK Try.prog 105 := ⟨_, Try.func105, rfl, rfl⟩
theorem callok106 : CallOK Try.prog 106 := ⟨_, Try.func106, rfl, rfl⟩
theorem callok107 : CallOK Try.prog 107 := ⟨_, Try.func107, rfl, rfl⟩
theorem callok108 : CallOK Try.prog 108 := ⟨_, Try.func108, rfl, rfl⟩
theorem callok109 : CallOK Try.prog 109 := ⟨_, Try.func109, rfl, rfl⟩
theorem callok110 : CallOK Try.prog 110 := ⟨_, Try.func110, rfl, rfl⟩
theorem callok111 : CallOK Try.prog 111 := ⟨_, Try.func111, rfl, rfl⟩
theorem callok112 : CallOK Try.prog 112 := ⟨_, Try.func112, rfl, rfl⟩
theorem callok113 : CallOK Try.prog 113 := ⟨_, Try.func113, rfl, rfl⟩
theorem callok114 : CallOK Try.prog 114 := ⟨_, Try.func114, rfl, rfl⟩
theorem callok115 : CallOK Try.prog 115 := ⟨_, Try.func115, rfl, rfl⟩
theorem callok116 : CallOK Try.prog 116 := ⟨_, Try.func116, rfl, rfl⟩
theorem callok117 : CallOK Try.prog 117 := ⟨_, Try.func117, rfl, rfl⟩
theorem callok118 : CallOK Try.prog 118 := ⟨_, Try.func118, rfl, rfl⟩
theorem callok119 : CallOK Try.prog 119 := ⟨_, Try.func119, rfl, rfl⟩
theorem callok120 : CallOK Try.prog 120 := ⟨_, Try.func120, rfl, rfl⟩
theorem callok121 : CallOK Try.prog 121 := ⟨_, Try.func121, rfl, rfl⟩
theorem callok122 : CallOK Try.prog 122 := ⟨_, Try.func122, rfl, rfl⟩
theorem callok123 : CallOK Try.prog 123 := ⟨_, Try.func123, rfl, rfl⟩
theorem callok124 : CallOK Try.prog 124 := ⟨_, Try.func124, rfl, rfl⟩
theorem callok132 : CallOK Try.prog 132 := ⟨_, Try.func132, rfl, rfl⟩
theorem callok140 : CallOK Try.prog 140 := ⟨_, Try.func140, rfl, rfl⟩
theorem callok141 : CallOK Try.prog 141 := ⟨_, Try.func141, rfl, rfl⟩
theorem callok148 : CallOK Try.prog 148 := ⟨_, Try.func148, rfl, rfl⟩
theorem callok151 : CallOK Try.prog 151 := ⟨_, Try.func151, rfl, rfl⟩
theorem callok157 : CallOK Try.prog 157 := ⟨_, Try.func157, rfl, rfl⟩
theorem callok158 : CallOK Try.prog 158 := ⟨_, Try.func158, rfl, rfl⟩
theorem callok168 : CallOK Try.prog 168 := ⟨_, Try.func168, rfl, rfl⟩
theorem eqs36 (w : World) (a0 : Int) (a1 : Int) (b0 : Int) (b1 : Int) : (Op.equalIn 10000 36 (.agg #[.int .i64 a0, .int .i64 a1]) (.agg #[.int .i64 b0, .int .i64 b1])).run Try.prog w = .ok ((a0 == b0) && (a1 == b1)) w :=
  ((eqA Try.underlying36 (by kernel_rfl) (eqF_more rfl (part1 Try.underlying2 rfl rfl) (part1 Try.underlying2 rfl rfl) (run_equalIn_int _ _ _ _ _ _ _ Try.underlying2) (eqF_one rfl (part1 Try.underlying2 rfl rfl) (part1 Try.underlying2 rfl rfl) (run_equalIn_int _ _ _ _ _ _ _ Try.underlying2)))) : (Op.equalIn (9998 + 2) 36 (.agg #[.int .i64 a0, .int .i64 a1]) (.agg #[.int .i64 b0, .int .i64 b1])).run Try.prog w = .ok ((a0 == b0) && (a1 == b1)) w)
theorem eqs38 (w : World) (a0 : Int) (a1 : Int) (a2 : Int) (b0 : Int) (b1 : Int) (b2 : Int) : (Op.equalIn 10000 38 (.agg #[.int .i64 a0, .int .i64 a1, .int .i64 a2]) (.agg #[.int .i64 b0, .int .i64 b1, .int .i64 b2])).run Try.prog w = .ok ((a0 == b0) && ((a1 == b1) && (a2 == b2))) w :=
  ((eqA Try.underlying38 (by kernel_rfl) (eqF_more rfl (part1 Try.underlying2 rfl rfl) (part1 Try.underlying2 rfl rfl) (run_equalIn_int _ _ _ _ _ _ _ Try.underlying2) (eqF_one rfl (partN Try.underlying36 rfl tsz36 rfl) (partN Try.underlying36 rfl tsz36 rfl) (eqA Try.underlying36 (by kernel_rfl) (eqF_more rfl (part1 Try.underlying2 rfl rfl) (part1 Try.underlying2 rfl rfl) (run_equalIn_int _ _ _ _ _ _ _ Try.underlying2) (eqF_one rfl (part1 Try.underlying2 rfl rfl) (part1 Try.underlying2 rfl rfl) (run_equalIn_int _ _ _ _ _ _ _ Try.underlying2))))))) : (Op.equalIn (9997 + 3) 38 (.agg #[.int .i64 a0, .int .i64 a1, .int .i64 a2]) (.agg #[.int .i64 b0, .int .i64 b1, .int .i64 b2])).run Try.prog w = .ok ((a0 == b0) && ((a1 == b1) && (a2 == b2))) w)
end Go.Proofs.Ytbbcabpnkdilgaa.Zk
