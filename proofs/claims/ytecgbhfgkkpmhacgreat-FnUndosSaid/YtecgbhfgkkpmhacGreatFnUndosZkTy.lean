/- The data of the program, its types' facts. No condition. -/
import Derived.Test.YtecgbhfgkkpmhacGreatProg
import Derived.Test.YtecgbhfgkkpmhacGreatZkL
import Derived.Test.YtecgbhfgkkpmhacGreatZkPure
import Derived.Test.YtecgbhfgkkpmhacGreatZkQ
import Derived.Test.YtecgbhfgkkpmhacGreatSrt
import Derived.Test.YtecgbhfgkkpmhacGreatZkP
import Derived.Test.YtecgbhfgkkpmhacGreatZkC
namespace Go.Proofs.YtecgbhfgkkpmhacGreat.Zk
open Go Go.RowKit Go.IntWalk Go.Proofs
set_option linter.unusedVariables false
set_option linter.unusedSimpArgs false
set_option maxRecDepth 100000
abbrev bs (n m : Nat) : Array Bool := ((List.range n).map fun i => Nat.testBit m i).toArray
theorem onesC {a : Value} {l : List Value} (h : a.oneCell' = true) (hl : ∀ u ∈ l, u.oneCell' = true) : ∀ u ∈ a :: l, u.oneCell' = true := by intro u hu; cases hu with | head => exact h | tail _ h => exact hl u h
theorem onesN : ∀ u ∈ ([] : List Value), u.oneCell' = true := by intro u hu; cases hu
abbrev kInt : Kd Int := Kd.plain 1 (fun x => [.int .i64 x]) (fun _ => rfl) (fun _ => onesC rfl onesN)
abbrev kU8 : Kd Int := Kd.plain 1 (fun x => [.int .u8 x]) (fun _ => rfl) (fun _ => onesC rfl onesN)
abbrev kStr : Kd ByteArray := Kd.plain 1 (fun x => [.string x]) (fun _ => rfl) (fun _ => onesC rfl onesN)
abbrev Hdr := Option Addr × Nat × Nat
structure Ref where
  fTx : Int
  fAt : Int
instance : Inhabited Ref := ⟨⟨default, default⟩⟩
abbrev kRef : Kd Ref := Kd.plain 2 (fun x => [.int .i64 x.fTx, .int .i64 x.fAt]) (fun _ => rfl) (fun _ => (onesC rfl (onesC rfl onesN)))
structure Rule where
  fKeys : List Int
  fNeed : Int
  fAfter : Int
instance : Inhabited Rule := ⟨⟨default, default, default⟩⟩
structure Out where
  fValue : Int
  fRule : Rule
instance : Inhabited Out := ⟨⟨default, default⟩⟩
abbrev kOut : Kd Out := Kd.with1 4 (fun x v => [.int .i64 x.fValue, v, .int .i64 x.fRule.fNeed, .int .i64 x.fRule.fAfter]) (fun x => x.fRule.fKeys) kInt 2 (fun _ _ => rfl) (fun _ _ _ _ => (onesC rfl (onesC rfl (onesC rfl (onesC rfl onesN)))))
structure Coin where
  fRef : Ref
  fOut : Out
  fHeight : Int
  fMined : Bool
instance : Inhabited Coin := ⟨⟨default, default, default, default⟩⟩
abbrev kCoin : Kd Coin := Kd.with1 8 (fun x v => [.int .i64 x.fRef.fTx, .int .i64 x.fRef.fAt, .int .i64 x.fOut.fValue, v, .int .i64 x.fOut.fRule.fNeed, .int .i64 x.fOut.fRule.fAfter, .int .i64 x.fHeight, .bool x.fMined]) (fun x => x.fOut.fRule.fKeys) kInt 2 (fun _ _ => rfl) (fun _ _ _ _ => (onesC rfl (onesC rfl (onesC rfl (onesC rfl (onesC rfl (onesC rfl (onesC rfl (onesC rfl onesN)))))))))
structure Tx where
  fKind : Int
  fMember : Int
  fIns : List Ref
  fOuts : List Out
instance : Inhabited Tx := ⟨⟨default, default, default, default⟩⟩
structure Sign where
  fKey : Int
  fId : Int
instance : Inhabited Sign := ⟨⟨default, default⟩⟩
abbrev kSign : Kd Sign := Kd.plain 2 (fun x => [.int .i64 x.fKey, .int .i64 x.fId]) (fun _ => rfl) (fun _ => (onesC rfl (onesC rfl onesN)))
structure Ledger where
  fTexts : List ByteArray
  fSigns : List Sign
instance : Inhabited Ledger := ⟨⟨default, default⟩⟩
structure l1Src where
  fCode : List Int
  fAt : Int
instance : Inhabited l1Src := ⟨⟨default, default⟩⟩
structure CoinsResult where
  fCode : Int
  fCoins : List Coin
instance : Inhabited CoinsResult := ⟨⟨default, default⟩⟩
structure LedgerResult where
  fCode : Int
  fId : Int
  fLedger : Ledger
instance : Inhabited LedgerResult := ⟨⟨default, default, default⟩⟩
structure TextResult where
  fCode : Int
  fText : ByteArray
instance : Inhabited TextResult := ⟨⟨default, default⟩⟩
structure RuleH where
  fKeys : Hdr
  fNeed : Int
  fAfter : Int
instance : Inhabited RuleH := ⟨⟨default, default, default⟩⟩
structure OutH where
  fValue : Int
  fRule : RuleH
instance : Inhabited OutH := ⟨⟨default, default⟩⟩
structure CoinH where
  fRef : Ref
  fOut : OutH
  fHeight : Int
  fMined : Bool
instance : Inhabited CoinH := ⟨⟨default, default, default, default⟩⟩
abbrev kCoinH : Kd CoinH := Kd.plain 8 (fun x => [.int .i64 x.fRef.fTx, .int .i64 x.fRef.fAt, .int .i64 x.fOut.fValue, .slice x.fOut.fRule.fKeys.1 x.fOut.fRule.fKeys.2.1 x.fOut.fRule.fKeys.2.2, .int .i64 x.fOut.fRule.fNeed, .int .i64 x.fOut.fRule.fAfter, .int .i64 x.fHeight, .bool x.fMined]) (fun _ => rfl) (fun _ => (onesC rfl (onesC rfl (onesC rfl (onesC rfl (onesC rfl (onesC rfl (onesC rfl (onesC rfl onesN)))))))))
theorem kCoinH_one : ∀ x : CoinH, ∀ u ∈ ([.int .i64 x.fRef.fTx, .int .i64 x.fRef.fAt, .int .i64 x.fOut.fValue, .slice x.fOut.fRule.fKeys.1 x.fOut.fRule.fKeys.2.1 x.fOut.fRule.fKeys.2.2, .int .i64 x.fOut.fRule.fNeed, .int .i64 x.fOut.fRule.fAfter, .int .i64 x.fHeight, .bool x.fMined] : List Value), u.oneCell' = true := fun _ => (onesC rfl (onesC rfl (onesC rfl (onesC rfl (onesC rfl (onesC rfl (onesC rfl (onesC rfl onesN))))))))
theorem tsz2 : tsz Tryz.prog 2 = some 1 := by kernel_rfl
theorem tby2 : tby Tryz.prog 2 = some 8 := by kernel_rfl
theorem tz2 : tzero Tryz.prog 2 = some (.int .i64 0) := by kernel_rfl
theorem tsz3 : tsz Tryz.prog 3 = some 1 := by kernel_rfl
theorem tsz4 : tsz Tryz.prog 4 = some 1 := by kernel_rfl
theorem tsz5 : tsz Tryz.prog 5 = some 1 := by kernel_rfl
theorem tby5 : tby Tryz.prog 5 = some 1 := by kernel_rfl
theorem tz5 : tzero Tryz.prog 5 = some (.int .u8 0) := by kernel_rfl
theorem tsz9 : tsz Tryz.prog 9 = some 1 := by kernel_rfl
theorem tby9 : tby Tryz.prog 9 = some 16 := by kernel_rfl
theorem tz9 : tzero Tryz.prog 9 = some (.string ⟨#[]⟩) := by kernel_rfl
theorem tsz22 : tsz Tryz.prog 22 = some 1 := by kernel_rfl
theorem tsz24 : tsz Tryz.prog 24 = some 1 := by kernel_rfl
theorem tsz25 : tsz Tryz.prog 25 = some 1 := by kernel_rfl
theorem tsz26 : tsz Tryz.prog 26 = some 1 := by kernel_rfl
theorem tsz28 : tsz Tryz.prog 28 = some 4 := by kernel_rfl
theorem tz28 : tzero Tryz.prog 28 = some (.agg #[(.int .i64 0), (.int .i64 0), (.slice none 0 0), (.slice none 0 0)]) := by kernel_rfl
theorem tsz32 : tsz Tryz.prog 32 = some 2 := by kernel_rfl
theorem tz32 : tzero Tryz.prog 32 = some (.agg #[(.int .i64 0), (.slice none 0 0)]) := by kernel_rfl
theorem tsz38 : tsz Tryz.prog 38 = some 2 := by kernel_rfl
theorem tby38 : tby Tryz.prog 38 = some 16 := by kernel_rfl
theorem tz38 : tzero Tryz.prog 38 = some (.agg #[(.int .i64 0), (.int .i64 0)]) := by kernel_rfl
theorem tsz43 : tsz Tryz.prog 43 = some 1 := by kernel_rfl
theorem tsz44 : tsz Tryz.prog 44 = some 1 := by kernel_rfl
theorem tsz46 : tsz Tryz.prog 46 = some 2 := by kernel_rfl
theorem tz46 : tzero Tryz.prog 46 = some (.agg #[(.slice none 0 0), (.slice none 0 0)]) := by kernel_rfl
theorem tsz58 : tsz Tryz.prog 58 = some 1 := by kernel_rfl
theorem tsz66 : tsz Tryz.prog 66 = some 3 := by kernel_rfl
theorem tz66 : tzero Tryz.prog 66 = some (.agg #[(.slice none 0 0), (.int .i64 0), (.int .i64 0)]) := by kernel_rfl
theorem tsz68 : tsz Tryz.prog 68 = some 4 := by kernel_rfl
theorem tby68 : tby Tryz.prog 68 = some 48 := by kernel_rfl
theorem tz68 : tzero Tryz.prog 68 = some (.agg #[(.int .i64 0), (.slice none 0 0), (.int .i64 0), (.int .i64 0)]) := by kernel_rfl
theorem tsz70 : tsz Tryz.prog 70 = some 8 := by kernel_rfl
theorem tby70 : tby Tryz.prog 70 = some 80 := by kernel_rfl
theorem tz70 : tzero Tryz.prog 70 = some (.agg #[(.int .i64 0), (.int .i64 0), (.int .i64 0), (.slice none 0 0), (.int .i64 0), (.int .i64 0), (.int .i64 0), (.bool false)]) := by kernel_rfl
theorem tsz110 : tsz Tryz.prog 110 = some 4 := by kernel_rfl
theorem tz110 : tzero Tryz.prog 110 = some (.agg #[(.int .i64 0), (.int .i64 0), (.slice none 0 0), (.slice none 0 0)]) := by kernel_rfl
theorem tsz114 : tsz Tryz.prog 114 = some 2 := by kernel_rfl
theorem tz114 : tzero Tryz.prog 114 = some (.agg #[(.int .i64 0), (.string ⟨#[]⟩)]) := by kernel_rfl
theorem tsz119 : tsz Tryz.prog 119 = some 2 := by kernel_rfl
theorem tby119 : tby Tryz.prog 119 = some 16 := by kernel_rfl
theorem tz119 : tzero Tryz.prog 119 = some (.agg #[(.int .i64 0), (.int .i64 0)]) := by kernel_rfl
theorem mixed : Tryz.prog.follows .mixedOrders = true := by kernel_rfl
theorem callok4 : CallOK Tryz.prog 4 := ⟨_, Tryz.func4, rfl, rfl⟩
theorem callok5 : CallOK Tryz.prog 5 := ⟨_, Tryz.func5, rfl, rfl⟩
theorem callok6 : CallOK Tryz.prog 6 := ⟨_, Tryz.func6, rfl, rfl⟩
theorem callok7 : CallOK Tryz.prog 7 := ⟨_, Tryz.func7, rfl, rfl⟩
theorem callok8 : CallOK Tryz.prog 8 := ⟨_, Tryz.func8, rfl, rfl⟩
theorem callok9 : CallOK Tryz.prog 9 := ⟨_, Tryz.func9, rfl, rfl⟩
theorem callok10 : CallOK Tryz.prog 10 := ⟨_, Tryz.func10, rfl, rfl⟩
theorem callok11 : CallOK Tryz.prog 11 := ⟨_, Tryz.func11, rfl, rfl⟩
theorem callok12 : CallOK Tryz.prog 12 := ⟨_, Tryz.func12, rfl, rfl⟩
theorem callok13 : CallOK Tryz.prog 13 := ⟨_, Tryz.func13, rfl, rfl⟩
theorem callok14 : CallOK Tryz.prog 14 := ⟨_, Tryz.func14, rfl, rfl⟩
theorem callok15 : CallOK Tryz.prog 15 := ⟨_, Tryz.func15, rfl, rfl⟩
theorem callok16 : CallOK Tryz.prog 16 := ⟨_, Tryz.func16, rfl, rfl⟩
theorem callok17 : CallOK Tryz.prog 17 := ⟨_, Tryz.func17, rfl, rfl⟩
theorem callok18 : CallOK Tryz.prog 18 := ⟨_, Tryz.func18, rfl, rfl⟩
theorem callok19 : CallOK Tryz.prog 19 := ⟨_, Tryz.func19, rfl, rfl⟩
theorem callok20 : CallOK Tryz.prog 20 := ⟨_, Tryz.func20, rfl, rfl⟩
theorem callok21 : CallOK Tryz.prog 21 := ⟨_, Tryz.func21, rfl, rfl⟩
theorem callok22 : CallOK Tryz.prog 22 := ⟨_, Tryz.func22, rfl, rfl⟩
theorem callok23 : CallOK Tryz.prog 23 := ⟨_, Tryz.func23, rfl, rfl⟩
theorem callok24 : CallOK Tryz.prog 24 := ⟨_, Tryz.func24, rfl, rfl⟩
theorem callok25 : CallOK Tryz.prog 25 := ⟨_, Tryz.func25, rfl, rfl⟩
theorem callok26 : CallOK Tryz.prog 26 := ⟨_, Tryz.func26, rfl, rfl⟩
theorem callok27 : CallOK Tryz.prog 27 := ⟨_, Tryz.func27, rfl, rfl⟩
theorem callok28 : CallOK Tryz.prog 28 := ⟨_, Tryz.func28, rfl, rfl⟩
theorem callok29 : CallOK Tryz.prog 29 := ⟨_, Tryz.func29, rfl, rfl⟩
theorem callok30 : CallOK Tryz.prog 30 := ⟨_, Tryz.func30, rfl, rfl⟩
theorem callok31 : CallOK Tryz.prog 31 := ⟨_, Tryz.func31, rfl, rfl⟩
theorem callok32 : CallOK Tryz.prog 32 := ⟨_, Tryz.func32, rfl, rfl⟩
theorem callok33 : CallOK Tryz.prog 33 := ⟨_, Tryz.func33, rfl, rfl⟩
theorem callok34 : CallOK Tryz.prog 34 := ⟨_, Tryz.func34, rfl, rfl⟩
theorem callok35 : CallOK Tryz.prog 35 := ⟨_, Tryz.func35, rfl, rfl⟩
theorem callok36 : CallOK Tryz.prog 36 := ⟨_, Tryz.func36, rfl, rfl⟩
theorem callok37 : CallOK Tryz.prog 37 := ⟨_, Tryz.func37, rfl, rfl⟩
theorem callok38 : CallOK Tryz.prog 38 := ⟨_, Tryz.func38, rfl, rfl⟩
theorem callok39 : CallOK Tryz.prog 39 := ⟨_, Tryz.func39, rfl, rfl⟩
theorem callok40 : CallOK Tryz.prog 40 := ⟨_, Tryz.func40, rfl, rfl⟩
theorem callok41 : CallOK Tryz.prog 41 := ⟨_, Tryz.func41, rfl, rfl⟩
theorem callok42 : CallOK Tryz.prog 42 := ⟨_, Tryz.func42, rfl, rfl⟩
theorem callok43 : CallOK Tryz.prog 43 := ⟨_, Tryz.func43, rfl, rfl⟩
theorem callok44 : CallOK Tryz.prog 44 := ⟨_, Tryz.func44, rfl, rfl⟩
theorem callok45 : CallOK Tryz.prog 45 := ⟨_, Tryz.func45, rfl, rfl⟩
theorem callok46 : CallOK Tryz.prog 46 := ⟨_, Tryz.func46, rfl, rfl⟩
theorem callok47 : CallOK Tryz.prog 47 := ⟨_, Tryz.func47, rfl, rfl⟩
theorem callok48 : CallOK Tryz.prog 48 := ⟨_, Tryz.func48, rfl, rfl⟩
theorem callok49 : CallOK Tryz.prog 49 := ⟨_, Tryz.func49, rfl, rfl⟩
theorem callok50 : CallOK Tryz.prog 50 := ⟨_, Tryz.func50, rfl, rfl⟩
theorem callok51 : CallOK Tryz.prog 51 := ⟨_, Tryz.func51, rfl, rfl⟩
theorem callok52 : CallOK Tryz.prog 52 := ⟨_, Tryz.func52, rfl, rfl⟩
theorem callok53 : CallOK Tryz.prog 53 := ⟨_, Tryz.func53, rfl, rfl⟩
theorem callok54 : CallOK Tryz.prog 54 := ⟨_, Tryz.func54, rfl, rfl⟩
theorem callok55 : CallOK Tryz.prog 55 := ⟨_, Tryz.func55, rfl, rfl⟩
theorem callok56 : CallOK Tryz.prog 56 := ⟨_, Tryz.func56, rfl, rfl⟩
theorem callok57 : CallOK Tryz.prog 57 := ⟨_, Tryz.func57, rfl, rfl⟩
theorem callok58 : CallOK Tryz.prog 58 := ⟨_, Tryz.func58, rfl, rfl⟩
theorem callok59 : CallOK Tryz.prog 59 := ⟨_, Tryz.func59, rfl, rfl⟩
theorem callok60 : CallOK Tryz.prog 60 := ⟨_, Tryz.func60, rfl, rfl⟩
theorem callok61 : CallOK Tryz.prog 61 := ⟨_, Tryz.func61, rfl, rfl⟩
theorem callok62 : CallOK Tryz.prog 62 := ⟨_, Tryz.func62, rfl, rfl⟩
theorem callok63 : CallOK Tryz.prog 63 := ⟨_, Tryz.func63, rfl, rfl⟩
theorem callok64 : CallOK Tryz.prog 64 := ⟨_, Tryz.func64, rfl, rfl⟩
theorem callok65 : CallOK Tryz.prog 65 := ⟨_, Tryz.func65, rfl, rfl⟩
theorem callok66 : CallOK Tryz.prog 66 := ⟨_, Tryz.func66, rfl, rfl⟩
theorem callok67 : CallOK Tryz.prog 67 := ⟨_, Tryz.func67, rfl, rfl⟩
theorem callok68 : CallOK Tryz.prog 68 := ⟨_, Tryz.func68, rfl, rfl⟩
theorem callok69 : CallOK Tryz.prog 69 := ⟨_, Tryz.func69, rfl, rfl⟩
theorem callok70 : CallOK Tryz.prog 70 := ⟨_, Tryz.func70, rfl, rfl⟩
theorem callok71 : CallOK Tryz.prog 71 := ⟨_, Tryz.func71, rfl, rfl⟩
theorem callok72 : CallOK Tryz.prog 72 := ⟨_, Tryz.func72, rfl, rfl⟩
theorem callok73 : CallOK Tryz.prog 73 := ⟨_, Tryz.func73, rfl, rfl⟩
theorem callok74 : CallOK Tryz.prog 74 := ⟨_, Tryz.func74, rfl, rfl⟩
theorem callok75 : CallOK Tryz.prog 75 := ⟨_, Tryz.func75, rfl, rfl⟩
theorem callok76 : CallOK Tryz.prog 76 := ⟨_, Tryz.func76, rfl, rfl⟩
theorem callok77 : CallOK Tryz.prog 77 := ⟨_, Tryz.func77, rfl, rfl⟩
theorem callok78 : CallOK Tryz.prog 78 := ⟨_, Tryz.func78, rfl, rfl⟩
theorem callok79 : CallOK Tryz.prog 79 := ⟨_, Tryz.func79, rfl, rfl⟩
theorem callok80 : CallOK Tryz.prog 80 := ⟨_, Tryz.func80, rfl, rfl⟩
theorem callok81 : CallOK Tryz.prog 81 := ⟨_, Tryz.func81, rfl, rfl⟩
theorem callok82 : CallOK Tryz.prog 82 := ⟨_, Tryz.func82, rfl, rfl⟩
theorem callok83 : CallOK Tryz.prog 83 := ⟨_, Tryz.func83, rfl, rfl⟩
theorem callok84 : CallOK Tryz.prog 84 := ⟨_, Tryz.func84, rfl, rfl⟩
theorem callok85 : CallOK Tryz.prog 85 := ⟨_, Tryz.func85, rfl, rfl⟩
theorem callok86 : CallOK Tryz.prog 86 := ⟨_, Tryz.func86, rfl, rfl⟩
theorem callok87 : CallOK Tryz.prog 87 := ⟨_, Tryz.func87, rfl, rfl⟩
theorem callok88 : CallOK Tryz.prog 88 := ⟨_, Tryz.func88, rfl, rfl⟩
theorem callok89 : CallOK Tryz.prog 89 := ⟨_, Tryz.func89, rfl, rfl⟩
theorem callok90 : CallOK Tryz.prog 90 := ⟨_, Tryz.func90, rfl, rfl⟩
theorem callok91 : CallOK Tryz.prog 91 := ⟨_, Tryz.func91, rfl, rfl⟩
theorem callok92 : CallOK Tryz.prog 92 := ⟨_, Tryz.func92, rfl, rfl⟩
theorem callok93 : CallOK Tryz.prog 93 := ⟨_, Tryz.func93, rfl, rfl⟩
theorem callok94 : CallOK Tryz.prog 94 := ⟨_, Tryz.func94, rfl, rfl⟩
theorem callok95 : CallOK Tryz.prog 95 := ⟨_, Tryz.func95, rfl, rfl⟩
theorem callok96 : CallOK Tryz.prog 96 := ⟨_, Tryz.func96, rfl, rfl⟩
theorem callok97 : CallOK Tryz.prog 97 := ⟨_, Tryz.func97, rfl, rfl⟩
theorem callok99 : CallOK Tryz.prog 99 := ⟨_, Tryz.func99, rfl, rfl⟩
theorem callok100 : CallOK Tryz.prog 100 := ⟨_, Tryz.func100, rfl, rfl⟩
theorem callok101 : CallOK Tryz.prog 101 := ⟨_, Tryz.func101, rfl, rfl⟩
theorem callok102 : CallOK Tryz.prog 102 := ⟨_, Tryz.func102, rfl, rfl⟩
theorem callok103 : CallOK Tryz.prog 103 := ⟨_, Tryz.func103, rfl, rfl⟩
theorem callok104 : CallOK Tryz.prog 104 := ⟨_, Tryz.func104, rfl, rfl⟩
theorem callok105 : CallOK Tryz.prog 105 := ⟨_, Tryz.func105, rfl, rfl⟩
theorem callok106 : CallOK Tryz.prog 106 := ⟨_, Tryz.func106, rfl, rfl⟩
theorem callok107 : CallOK Tryz.prog 107 := ⟨_, Tryz.func107, rfl, rfl⟩
theorem callok108 : CallOK Tryz.prog 108 := ⟨_, Tryz.func108, rfl, rfl⟩
theorem callok109 : CallOK Tryz.prog 109 := ⟨_, Tryz.func109, rfl, rfl⟩
theorem callok110 : CallOK Tryz.prog 110 := ⟨_, Tryz.func110, rfl, rfl⟩
theorem callok111 : CallOK Tryz.prog 111 := ⟨_, Tryz.func111, rfl, rfl⟩
theorem callok112 : CallOK Tryz.prog 112 := ⟨_, Tryz.func112, rfl, rfl⟩
theorem callok115 : CallOK Tryz.prog 115 := ⟨_, Tryz.func115, rfl, rfl⟩
theorem callok116 : CallOK Tryz.prog 116 := ⟨_, Tryz.func116, rfl, rfl⟩
theorem callok117 : CallOK Tryz.prog 117 := ⟨_, Tryz.func117, rfl, rfl⟩
theorem callok118 : CallOK Tryz.prog 118 := ⟨_, Tryz.func118, rfl, rfl⟩
theorem callok119 : CallOK Tryz.prog 119 := ⟨_, Tryz.func119, rfl, rfl⟩
theorem callok120 : CallOK Tryz.prog 120 := ⟨_, Tryz.func120, rfl, rfl⟩
theorem eqs38 (w : World) (a0 : Int) (a1 : Int) (b0 : Int) (b1 : Int) : (Op.equalIn 10000 38 (.agg #[.int .i64 a0, .int .i64 a1]) (.agg #[.int .i64 b0, .int .i64 b1])).run Tryz.prog w = .ok ((a0 == b0) && (a1 == b1)) w :=
  ((eqA Tryz.underlying38 (by kernel_rfl) (eqF_more rfl (part1 Tryz.underlying2 rfl rfl) (part1 Tryz.underlying2 rfl rfl) (run_equalIn_int _ _ _ _ _ _ _ Tryz.underlying2) (eqF_one rfl (part1 Tryz.underlying2 rfl rfl) (part1 Tryz.underlying2 rfl rfl) (run_equalIn_int _ _ _ _ _ _ _ Tryz.underlying2)))) : (Op.equalIn (9998 + 2) 38 (.agg #[.int .i64 a0, .int .i64 a1]) (.agg #[.int .i64 b0, .int .i64 b1])).run Tryz.prog w = .ok ((a0 == b0) && (a1 == b1)) w)
theorem eqs119 (w : World) (a0 : Int) (a1 : Int) (b0 : Int) (b1 : Int) : (Op.equalIn 10000 119 (.agg #[.int .i64 a0, .int .i64 a1]) (.agg #[.int .i64 b0, .int .i64 b1])).run Tryz.prog w = .ok ((a0 == b0) && (a1 == b1)) w :=
  ((eqA Tryz.underlying119 (by kernel_rfl) (eqF_more rfl (part1 Tryz.underlying2 rfl rfl) (part1 Tryz.underlying2 rfl rfl) (run_equalIn_int _ _ _ _ _ _ _ Tryz.underlying2) (eqF_one rfl (part1 Tryz.underlying2 rfl rfl) (part1 Tryz.underlying2 rfl rfl) (run_equalIn_int _ _ _ _ _ _ _ Tryz.underlying2)))) : (Op.equalIn (9998 + 2) 119 (.agg #[.int .i64 a0, .int .i64 a1]) (.agg #[.int .i64 b0, .int .i64 b1])).run Tryz.prog w = .ok ((a0 == b0) && (a1 == b1)) w)
abbrev U2 := @Tryz.underlying2
abbrev U3 := @Tryz.underlying3
abbrev U4 := @Tryz.underlying4
abbrev U5 := @Tryz.underlying5
abbrev U9 := @Tryz.underlying9
abbrev U22 := @Tryz.underlying22
abbrev U24 := @Tryz.underlying24
abbrev U25 := @Tryz.underlying25
abbrev U26 := @Tryz.underlying26
abbrev U28 := @Tryz.underlying28
abbrev U32 := @Tryz.underlying32
abbrev U38 := @Tryz.underlying38
abbrev U43 := @Tryz.underlying43
abbrev U44 := @Tryz.underlying44
abbrev U46 := @Tryz.underlying46
abbrev U58 := @Tryz.underlying58
abbrev U66 := @Tryz.underlying66
abbrev U68 := @Tryz.underlying68
abbrev U70 := @Tryz.underlying70
abbrev U78 := @Tryz.underlying78
abbrev U110 := @Tryz.underlying110
abbrev U114 := @Tryz.underlying114
abbrev U119 := @Tryz.underlying119
abbrev U133 := @Tryz.underlying133
abbrev U136 := @Tryz.underlying136
end Go.Proofs.YtecgbhfgkkpmhacGreat.Zk
