/- The data of the program, its types' facts. No condition. -/
import Derived.Test.YtkofpnbacgccnaaProg
import Derived.Test.YtkofpnbacgccnaaZk
namespace Go.Proofs.Ytkofpnbacgccnaa.Zk
open Go Go.RowKit Go.IntWalk Go.Proofs
set_option linter.unusedVariables false
set_option linter.unusedSimpArgs false
theorem one1 {P : Value → Prop} {a : Value} (h : P a) : ∀ u ∈ [a], P u := by intro u hu; cases hu with | head => exact h | tail _ h => cases h
theorem onesC {a : Value} {l : List Value} (h : a.oneCell' = true) (hl : ∀ u ∈ l, u.oneCell' = true) : ∀ u ∈ a :: l, u.oneCell' = true := by intro u hu; cases hu with | head => exact h | tail _ h => exact hl u h
theorem onesN : ∀ u ∈ ([] : List Value), u.oneCell' = true := by intro u hu; cases hu
abbrev kInt : Kd Int := Kd.plain 1 (fun x => [.int .i64 x]) (fun _ => rfl) (fun _ => onesC rfl onesN)
abbrev kU8 : Kd Int := Kd.plain 1 (fun x => [.int .u8 x]) (fun _ => rfl) (fun _ => onesC rfl onesN)
abbrev kStr : Kd ByteArray := Kd.plain 1 (fun x => [.string x]) (fun _ => rfl) (fun _ => onesC rfl onesN)
abbrev kBool : Kd Bool := Kd.plain 1 (fun x => [.bool x]) (fun _ => rfl) (fun _ => onesC rfl onesN)
structure IntResult where
  fCode : Int
  fValue : Int
instance : Inhabited IntResult := ⟨⟨default, default⟩⟩
abbrev kIntResult : Kd IntResult := Kd.plain 2 (fun x => [.int .i64 x.fCode, .int .i64 x.fValue]) (fun _ => rfl) (fun _ => (onesC rfl (onesC rfl onesN)))
structure Ref where
  fTx : Int
  fAt : Int
instance : Inhabited Ref := ⟨⟨default, default⟩⟩
abbrev kRef : Kd Ref := Kd.plain 2 (fun x => [.int .i64 x.fTx, .int .i64 x.fAt]) (fun _ => rfl) (fun _ => (onesC rfl (onesC rfl onesN)))
structure Member where
  fKey : Int
  fRef : Ref
instance : Inhabited Member := ⟨⟨default, default⟩⟩
abbrev kMember : Kd Member := Kd.plain 3 (fun x => [.int .i64 x.fKey, .int .i64 x.fRef.fTx, .int .i64 x.fRef.fAt]) (fun _ => rfl) (fun _ => (onesC rfl (onesC rfl (onesC rfl onesN))))
structure Rule where
  fKeys : List Int
  fNeed : Int
  fAfter : Int
instance : Inhabited Rule := ⟨⟨default, default, default⟩⟩
abbrev kRule : Kd Rule := Kd.with1 3 (fun x v => [v, .int .i64 x.fNeed, .int .i64 x.fAfter]) (fun x => x.fKeys) kInt 2 (fun _ _ => rfl) (fun _ _ _ _ => (onesC rfl (onesC rfl (onesC rfl onesN))))
structure Block where
  fPrev : Int
  fHeight : Int
  fMiner : Int
  fTxs : List Int
instance : Inhabited Block := ⟨⟨default, default, default, default⟩⟩
structure Node where
  fId : Int
  fPrev : Int
  fHeight : Int
instance : Inhabited Node := ⟨⟨default, default, default⟩⟩
abbrev kNode : Kd Node := Kd.plain 3 (fun x => [.int .i64 x.fId, .int .i64 x.fPrev, .int .i64 x.fHeight]) (fun _ => rfl) (fun _ => (onesC rfl (onesC rfl (onesC rfl onesN))))
structure Out where
  fValue : Int
  fRule : Rule
instance : Inhabited Out := ⟨⟨default, default⟩⟩
abbrev kOut : Kd Out := Kd.with1 4 (fun x v => [.int .i64 x.fValue, v, .int .i64 x.fRule.fNeed, .int .i64 x.fRule.fAfter]) (fun x => x.fRule.fKeys) kInt 2 (fun _ _ => rfl) (fun _ _ _ _ => (onesC rfl (onesC rfl (onesC rfl (onesC rfl onesN)))))
structure Coin where
  fRef : Ref
  fOut : Out
  fHeight : Int
  fMined : Bool
instance : Inhabited Coin := ⟨⟨default, default, default, default⟩⟩
abbrev kCoin : Kd Coin := Kd.with1 8 (fun x v => [.int .i64 x.fRef.fTx, .int .i64 x.fRef.fAt, .int .i64 x.fOut.fValue, v, .int .i64 x.fOut.fRule.fNeed, .int .i64 x.fOut.fRule.fAfter, .int .i64 x.fHeight, .bool x.fMined]) (fun x => x.fOut.fRule.fKeys) kInt 2 (fun _ _ => rfl) (fun _ _ _ _ => (onesC rfl (onesC rfl (onesC rfl (onesC rfl (onesC rfl (onesC rfl (onesC rfl (onesC rfl onesN)))))))))
structure Sign where
  fKey : Int
  fId : Int
instance : Inhabited Sign := ⟨⟨default, default⟩⟩
abbrev kSign : Kd Sign := Kd.plain 2 (fun x => [.int .i64 x.fKey, .int .i64 x.fId]) (fun _ => rfl) (fun _ => (onesC rfl (onesC rfl onesN)))
structure Ledger where
  fTexts : List ByteArray
  fSigns : List Sign
instance : Inhabited Ledger := ⟨⟨default, default⟩⟩
theorem tsz2 : tsz Try.prog 2 = some 1 := by kernel_rfl
theorem tby2 : tby Try.prog 2 = some 8 := by kernel_rfl
theorem tz2 : tzero Try.prog 2 = some (.int .i64 0) := by kernel_rfl
theorem tsz3 : tsz Try.prog 3 = some 1 := by kernel_rfl
theorem tby3 : tby Try.prog 3 = some 8 := by kernel_rfl
theorem tz3 : tzero Try.prog 3 = some (.int .i64 0) := by kernel_rfl
theorem tsz4 : tsz Try.prog 4 = some 1 := by kernel_rfl
theorem tby4 : tby Try.prog 4 = some 1 := by kernel_rfl
theorem tz4 : tzero Try.prog 4 = some (.bool false) := by kernel_rfl
theorem tsz9 : tsz Try.prog 9 = some 1 := by kernel_rfl
theorem tby9 : tby Try.prog 9 = some 16 := by kernel_rfl
theorem tz9 : tzero Try.prog 9 = some (.string ⟨#[]⟩) := by kernel_rfl
theorem tsz24 : tsz Try.prog 24 = some 2 := by kernel_rfl
theorem tby24 : tby Try.prog 24 = some 16 := by kernel_rfl
theorem tz24 : tzero Try.prog 24 = some (.agg #[(.int .i64 0), (.int .i64 0)]) := by kernel_rfl
theorem tsz28 : tsz Try.prog 28 = some 1 := by kernel_rfl
theorem tby28 : tby Try.prog 28 = some 24 := by kernel_rfl
theorem tz28 : tzero Try.prog 28 = some (.slice none 0 0) := by kernel_rfl
theorem tsz31 : tsz Try.prog 31 = some 1 := by kernel_rfl
theorem tby31 : tby Try.prog 31 = some 24 := by kernel_rfl
theorem tz31 : tzero Try.prog 31 = some (.slice none 0 0) := by kernel_rfl
theorem tsz34 : tsz Try.prog 34 = some 1 := by kernel_rfl
theorem tby34 : tby Try.prog 34 = some 24 := by kernel_rfl
theorem tz34 : tzero Try.prog 34 = some (.slice none 0 0) := by kernel_rfl
theorem tsz36 : tsz Try.prog 36 = some 3 := by kernel_rfl
theorem tby36 : tby Try.prog 36 = some 40 := by kernel_rfl
theorem tz36 : tzero Try.prog 36 = some (.agg #[(.slice none 0 0), (.int .i64 0), (.int .i64 0)]) := by kernel_rfl
theorem tsz39 : tsz Try.prog 39 = some 3 := by kernel_rfl
theorem tby39 : tby Try.prog 39 = some 40 := by kernel_rfl
theorem tz39 : tzero Try.prog 39 = some (.agg #[(.slice none 0 0), (.int .i64 0), (.int .i64 0)]) := by kernel_rfl
theorem tsz47 : tsz Try.prog 47 = some 4 := by kernel_rfl
theorem tby47 : tby Try.prog 47 = some 48 := by kernel_rfl
theorem tz47 : tzero Try.prog 47 = some (.agg #[(.int .i64 0), (.int .i64 0), (.int .i64 0), (.slice none 0 0)]) := by kernel_rfl
theorem tsz50 : tsz Try.prog 50 = some 4 := by kernel_rfl
theorem tby50 : tby Try.prog 50 = some 48 := by kernel_rfl
theorem tz50 : tzero Try.prog 50 = some (.agg #[(.int .i64 0), (.int .i64 0), (.int .i64 0), (.slice none 0 0)]) := by kernel_rfl
theorem tsz54 : tsz Try.prog 54 = some 1 := by kernel_rfl
theorem tby54 : tby Try.prog 54 = some 24 := by kernel_rfl
theorem tz54 : tzero Try.prog 54 = some (.slice none 0 0) := by kernel_rfl
theorem tsz57 : tsz Try.prog 57 = some 1 := by kernel_rfl
theorem tby57 : tby Try.prog 57 = some 24 := by kernel_rfl
theorem tz57 : tzero Try.prog 57 = some (.slice none 0 0) := by kernel_rfl
theorem tsz62 : tsz Try.prog 62 = some 2 := by kernel_rfl
theorem tby62 : tby Try.prog 62 = some 16 := by kernel_rfl
theorem tz62 : tzero Try.prog 62 = some (.agg #[(.int .i64 0), (.int .i64 0)]) := by kernel_rfl
theorem tsz64 : tsz Try.prog 64 = some 4 := by kernel_rfl
theorem tby64 : tby Try.prog 64 = some 48 := by kernel_rfl
theorem tz64 : tzero Try.prog 64 = some (.agg #[(.int .i64 0), (.slice none 0 0), (.int .i64 0), (.int .i64 0)]) := by kernel_rfl
theorem tsz66 : tsz Try.prog 66 = some 8 := by kernel_rfl
theorem tby66 : tby Try.prog 66 = some 80 := by kernel_rfl
theorem tz66 : tzero Try.prog 66 = some (.agg #[(.int .i64 0), (.int .i64 0), (.int .i64 0), (.slice none 0 0), (.int .i64 0), (.int .i64 0), (.int .i64 0), (.bool false)]) := by kernel_rfl
theorem tsz69 : tsz Try.prog 69 = some 2 := by kernel_rfl
theorem tby69 : tby Try.prog 69 = some 16 := by kernel_rfl
theorem tz69 : tzero Try.prog 69 = some (.agg #[(.int .i64 0), (.int .i64 0)]) := by kernel_rfl
theorem tsz71 : tsz Try.prog 71 = some 4 := by kernel_rfl
theorem tby71 : tby Try.prog 71 = some 48 := by kernel_rfl
theorem tz71 : tzero Try.prog 71 = some (.agg #[(.int .i64 0), (.slice none 0 0), (.int .i64 0), (.int .i64 0)]) := by kernel_rfl
theorem tsz73 : tsz Try.prog 73 = some 8 := by kernel_rfl
theorem tby73 : tby Try.prog 73 = some 80 := by kernel_rfl
theorem tz73 : tzero Try.prog 73 = some (.agg #[(.int .i64 0), (.int .i64 0), (.int .i64 0), (.slice none 0 0), (.int .i64 0), (.int .i64 0), (.int .i64 0), (.bool false)]) := by kernel_rfl
theorem tsz77 : tsz Try.prog 77 = some 1 := by kernel_rfl
theorem tby77 : tby Try.prog 77 = some 24 := by kernel_rfl
theorem tz77 : tzero Try.prog 77 = some (.slice none 0 0) := by kernel_rfl
theorem tsz78 : tsz Try.prog 78 = some 1 := by kernel_rfl
theorem tby78 : tby Try.prog 78 = some 24 := by kernel_rfl
theorem tz78 : tzero Try.prog 78 = some (.slice none 0 0) := by kernel_rfl
theorem tsz80 : tsz Try.prog 80 = some 2 := by kernel_rfl
theorem tby80 : tby Try.prog 80 = some 48 := by kernel_rfl
theorem tz80 : tzero Try.prog 80 = some (.agg #[(.slice none 0 0), (.slice none 0 0)]) := by kernel_rfl
theorem tsz83 : tsz Try.prog 83 = some 1 := by kernel_rfl
theorem tby83 : tby Try.prog 83 = some 24 := by kernel_rfl
theorem tz83 : tzero Try.prog 83 = some (.slice none 0 0) := by kernel_rfl
theorem tsz85 : tsz Try.prog 85 = some 2 := by kernel_rfl
theorem tby85 : tby Try.prog 85 = some 48 := by kernel_rfl
theorem tz85 : tzero Try.prog 85 = some (.agg #[(.slice none 0 0), (.slice none 0 0)]) := by kernel_rfl
theorem tsz94 : tsz Try.prog 94 = some 3 := by kernel_rfl
theorem tby94 : tby Try.prog 94 = some 24 := by kernel_rfl
theorem tz94 : tzero Try.prog 94 = some (.agg #[(.int .i64 0), (.int .i64 0), (.int .i64 0)]) := by kernel_rfl
theorem tsz97 : tsz Try.prog 97 = some 3 := by kernel_rfl
theorem tby97 : tby Try.prog 97 = some 24 := by kernel_rfl
theorem tz97 : tzero Try.prog 97 = some (.agg #[(.int .i64 0), (.int .i64 0), (.int .i64 0)]) := by kernel_rfl
theorem tsz101 : tsz Try.prog 101 = some 1 := by kernel_rfl
theorem tsz110 : tsz Try.prog 110 = some 1 := by kernel_rfl
theorem tsz113 : tsz Try.prog 113 = some 3 := by kernel_rfl
theorem tby113 : tby Try.prog 113 = some 24 := by kernel_rfl
theorem tz113 : tzero Try.prog 113 = some (.agg #[(.int .i64 0), (.int .i64 0), (.int .i64 0)]) := by kernel_rfl
theorem tsz115 : tsz Try.prog 115 = some 3 := by kernel_rfl
theorem tby115 : tby Try.prog 115 = some 24 := by kernel_rfl
theorem tz115 : tzero Try.prog 115 = some (.agg #[(.int .i64 0), (.int .i64 0), (.int .i64 0)]) := by kernel_rfl
theorem tsz120 : tsz Try.prog 120 = some 1 := by kernel_rfl
theorem tsz128 : tsz Try.prog 128 = some 1 := by kernel_rfl
theorem tsz134 : tsz Try.prog 134 = some 2 := by kernel_rfl
theorem tby134 : tby Try.prog 134 = some 16 := by kernel_rfl
theorem tz134 : tzero Try.prog 134 = some (.agg #[(.int .i64 0), (.int .i64 0)]) := by kernel_rfl
theorem tsz147 : tsz Try.prog 147 = some 2 := by kernel_rfl
theorem tby147 : tby Try.prog 147 = some 16 := by kernel_rfl
theorem tz147 : tzero Try.prog 147 = some (.agg #[(.int .i64 0), (.int .i64 0)]) := by kernel_rfl
theorem mixed : Try.prog.follows .mixedOrders = true := by kernel_rfl
theorem callok20 : CallOK Try.prog 20 := ⟨_, Try.func20, rfl, rfl⟩
theorem callok21 : CallOK Try.prog 21 := ⟨_, Try.func21, rfl, rfl⟩
theorem callok22 : CallOK Try.prog 22 := ⟨_, Try.func22, rfl, rfl⟩
theorem callok23 : CallOK Try.prog 23 := ⟨_, Try.func23, rfl, rfl⟩
theorem callok24 : CallOK Try.prog 24 := ⟨_, Try.func24, rfl, rfl⟩
theorem callok25 : CallOK Try.prog 25 := ⟨_, Try.func25, rfl, rfl⟩
theorem callok26 : CallOK Try.prog 26 := ⟨_, Try.func26, rfl, rfl⟩
theorem callok27 : CallOK Try.prog 27 := ⟨_, Try.func27, rfl, rfl⟩
theorem callok28 : CallOK Try.prog 28 := ⟨_, Try.func28, rfl, rfl⟩
theorem callok29 : CallOK Try.prog 29 := ⟨_, Try.func29, rfl, rfl⟩
theorem callok30 : CallOK Try.prog 30 := ⟨_, Try.func30, rfl, rfl⟩
theorem callok31 : CallOK Try.prog 31 := ⟨_, Try.func31, rfl, rfl⟩
theorem callok32 : CallOK Try.prog 32 := ⟨_, Try.func32, rfl, rfl⟩
theorem callok33 : CallOK Try.prog 33 := ⟨_, Try.func33, rfl, rfl⟩
theorem callok34 : CallOK Try.prog 34 := ⟨_, Try.func34, rfl, rfl⟩
theorem callok35 : CallOK Try.prog 35 := ⟨_, Try.func35, rfl, rfl⟩
theorem callok36 : CallOK Try.prog 36 := ⟨_, Try.func36, rfl, rfl⟩
theorem callok37 : CallOK Try.prog 37 := ⟨_, Try.func37, rfl, rfl⟩
theorem callok38 : CallOK Try.prog 38 := ⟨_, Try.func38, rfl, rfl⟩
theorem callok39 : CallOK Try.prog 39 := ⟨_, Try.func39, rfl, rfl⟩
theorem callok40 : CallOK Try.prog 40 := ⟨_, Try.func40, rfl, rfl⟩
theorem callok41 : CallOK Try.prog 41 := ⟨_, Try.func41, rfl, rfl⟩
theorem callok42 : CallOK Try.prog 42 := ⟨_, Try.func42, rfl, rfl⟩
theorem callok43 : CallOK Try.prog 43 := ⟨_, Try.func43, rfl, rfl⟩
theorem callok44 : CallOK Try.prog 44 := ⟨_, Try.func44, rfl, rfl⟩
theorem callok45 : CallOK Try.prog 45 := ⟨_, Try.func45, rfl, rfl⟩
theorem callok46 : CallOK Try.prog 46 := ⟨_, Try.func46, rfl, rfl⟩
theorem callok47 : CallOK Try.prog 47 := ⟨_, Try.func47, rfl, rfl⟩
theorem callok48 : CallOK Try.prog 48 := ⟨_, Try.func48, rfl, rfl⟩
theorem callok49 : CallOK Try.prog 49 := ⟨_, Try.func49, rfl, rfl⟩
theorem callok50 : CallOK Try.prog 50 := ⟨_, Try.func50, rfl, rfl⟩
theorem callok51 : CallOK Try.prog 51 := ⟨_, Try.func51, rfl, rfl⟩
theorem callok52 : CallOK Try.prog 52 := ⟨_, Try.func52, rfl, rfl⟩
theorem callok53 : CallOK Try.prog 53 := ⟨_, Try.func53, rfl, rfl⟩
theorem callok54 : CallOK Try.prog 54 := ⟨_, Try.func54, rfl, rfl⟩
theorem callok55 : CallOK Try.prog 55 := ⟨_, Try.func55, rfl, rfl⟩
theorem callok56 : CallOK Try.prog 56 := ⟨_, Try.func56, rfl, rfl⟩
theorem callok58 : CallOK Try.prog 58 := ⟨_, Try.func58, rfl, rfl⟩
theorem callok60 : CallOK Try.prog 60 := ⟨_, Try.func60, rfl, rfl⟩
theorem callok61 : CallOK Try.prog 61 := ⟨_, Try.func61, rfl, rfl⟩
theorem callok62 : CallOK Try.prog 62 := ⟨_, Try.func62, rfl, rfl⟩
theorem callok63 : CallOK Try.prog 63 := ⟨_, Try.func63, rfl, rfl⟩
theorem callok64 : CallOK Try.prog 64 := ⟨_, Try.func64, rfl, rfl⟩
theorem callok65 : CallOK Try.prog 65 := ⟨_, Try.func65, rfl, rfl⟩
theorem callok66 : CallOK Try.prog 66 := ⟨_, Try.func66, rfl, rfl⟩
theorem callok67 : CallOK Try.prog 67 := ⟨_, Try.func67, rfl, rfl⟩
theorem callok68 : CallOK Try.prog 68 := ⟨_, Try.func68, rfl, rfl⟩
theorem callok69 : CallOK Try.prog 69 := ⟨_, Try.func69, rfl, rfl⟩
theorem callok70 : CallOK Try.prog 70 := ⟨_, Try.func70, rfl, rfl⟩
theorem callok71 : CallOK Try.prog 71 := ⟨_, Try.func71, rfl, rfl⟩
theorem callok72 : CallOK Try.prog 72 := ⟨_, Try.func72, rfl, rfl⟩
theorem callok73 : CallOK Try.prog 73 := ⟨_, Try.func73, rfl, rfl⟩
theorem callok74 : CallOK Try.prog 74 := ⟨_, Try.func74, rfl, rfl⟩
theorem callok75 : CallOK Try.prog 75 := ⟨_, Try.func75, rfl, rfl⟩
theorem callok76 : CallOK Try.prog 76 := ⟨_, Try.func76, rfl, rfl⟩
theorem callok77 : CallOK Try.prog 77 := ⟨_, Try.func77, rfl, rfl⟩
theorem callok78 : CallOK Try.prog 78 := ⟨_, Try.func78, rfl, rfl⟩
theorem callok79 : CallOK Try.prog 79 := ⟨_, Try.func79, rfl, rfl⟩
theorem callok80 : CallOK Try.prog 80 := ⟨_, Try.func80, rfl, rfl⟩
theorem callok81 : CallOK Try.prog 81 := ⟨_, Try.func81, rfl, rfl⟩
theorem callok82 : CallOK Try.prog 82 := ⟨_, Try.func82, rfl, rfl⟩
theorem callok83 : CallOK Try.prog 83 := ⟨_, Try.func83, rfl, rfl⟩
theorem callok84 : CallOK Try.prog 84 := ⟨_, Try.func84, rfl, rfl⟩
theorem callok85 : CallOK Try.prog 85 := ⟨_, Try.func85, rfl, rfl⟩
theorem callok86 : CallOK Try.prog 86 := ⟨_, Try.func86, rfl, rfl⟩
theorem callok87 : CallOK Try.prog 87 := ⟨_, Try.func87, rfl, rfl⟩
theorem callok88 : CallOK Try.prog 88 := ⟨_, Try.func88, rfl, rfl⟩
theorem callok89 : CallOK Try.prog 89 := ⟨_, Try.func89, rfl, rfl⟩
theorem callok90 : CallOK Try.prog 90 := ⟨_, Try.func90, rfl, rfl⟩
theorem callok91 : CallOK Try.prog 91 := ⟨_, Try.func91, rfl, rfl⟩
theorem callok92 : CallOK Try.prog 92 := ⟨_, Try.func92, rfl, rfl⟩
theorem callok93 : CallOK Try.prog 93 := ⟨_, Try.func93, rfl, rfl⟩
theorem callok94 : CallOK Try.prog 94 := ⟨_, Try.func94, rfl, rfl⟩
theorem callok95 : CallOK Try.prog 95 := ⟨_, Try.func95, rfl, rfl⟩
theorem callok96 : CallOK Try.prog 96 := ⟨_, Try.func96, rfl, rfl⟩
theorem callok97 : CallOK Try.prog 97 := ⟨_, Try.func97, rfl, rfl⟩
theorem callok98 : CallOK Try.prog 98 := ⟨_, Try.func98, rfl, rfl⟩
theorem callok99 : CallOK Try.prog 99 := ⟨_, Try.func99, rfl, rfl⟩
theorem callok100 : CallOK Try.prog 100 := ⟨_, Try.func100, rfl, rfl⟩
theorem callok101 : CallOK Try.prog 101 := ⟨_, Try.func101, rfl, rfl⟩
theorem callok102 : CallOK Try.prog 102 := ⟨_, Try.func102, rfl, rfl⟩
theorem callok103 : CallOK Try.prog 103 := ⟨_, Try.func103, rfl, rfl⟩
theorem callok104 : CallOK Try.prog 104 := ⟨_, Try.func104, rfl, rfl⟩
theorem callok105 : CallOK Try.prog 105 := ⟨_, Try.func105, rfl, rfl⟩
theorem callok106 : CallOK Try.prog 106 := ⟨_, Try.func106, rfl, rfl⟩
theorem callok107 : CallOK Try.prog 107 := ⟨_, Try.func107, rfl, rfl⟩
theorem callok108 : CallOK Try.prog 108 := ⟨_, Try.func108, rfl, rfl⟩
theorem callok109 : CallOK Try.prog 109 := ⟨_, Try.func109, rfl, rfl⟩
theorem callok110 : CallOK Try.prog 110 := ⟨_, Try.func110, rfl, rfl⟩
theorem callok111 : CallOK Try.prog 111 := ⟨_, Try.func111, rfl, rfl⟩
theorem callok112 : CallOK Try.prog 112 := ⟨_, Try.func112, rfl, rfl⟩
theorem callok113 : CallOK Try.prog 113 := ⟨_, Try.func113, rfl, rfl⟩
theorem callok114 : CallOK Try.prog 114 := ⟨_, Try.func114, rfl, rfl⟩
theorem callok115 : CallOK Try.prog 115 := ⟨_, Try.func115, rfl, rfl⟩
theorem callok116 : CallOK Try.prog 116 := ⟨_, Try.func116, rfl, rfl⟩
theorem callok117 : CallOK Try.prog 117 := ⟨_, Try.func117, rfl, rfl⟩
theorem callok118 : CallOK Try.prog 118 := ⟨_, Try.func118, rfl, rfl⟩
theorem callok119 : CallOK Try.prog 119 := ⟨_, Try.func119, rfl, rfl⟩
theorem callok120 : CallOK Try.prog 120 := ⟨_, Try.func120, rfl, rfl⟩
theorem callok121 : CallOK Try.prog 121 := ⟨_, Try.func121, rfl, rfl⟩
theorem callok122 : CallOK Try.prog 122 := ⟨_, Try.func122, rfl, rfl⟩
theorem callok123 : CallOK Try.prog 123 := ⟨_, Try.func123, rfl, rfl⟩
theorem eqs69 (w : World) (a0 : Int) (a1 : Int) (b0 : Int) (b1 : Int) : (Op.equalIn 10000 69 (.agg #[.int .i64 a0, .int .i64 a1]) (.agg #[.int .i64 b0, .int .i64 b1])).run Try.prog w = .ok ((a0 == b0) && (a1 == b1)) w :=
  ((eqA Try.underlying69 (by kernel_rfl) (eqF_more rfl (part1 Try.underlying2 rfl rfl) (part1 Try.underlying2 rfl rfl) (run_equalIn_int _ _ _ _ _ _ _ Try.underlying2) (eqF_one rfl (part1 Try.underlying2 rfl rfl) (part1 Try.underlying2 rfl rfl) (run_equalIn_int _ _ _ _ _ _ _ Try.underlying2)))) : (Op.equalIn (9998 + 2) 69 (.agg #[.int .i64 a0, .int .i64 a1]) (.agg #[.int .i64 b0, .int .i64 b1])).run Try.prog w = .ok ((a0 == b0) && (a1 == b1)) w)
theorem eqs94 (w : World) (a0 : Int) (a1 : Int) (a2 : Int) (b0 : Int) (b1 : Int) (b2 : Int) : (Op.equalIn 10000 94 (.agg #[.int .i64 a0, .int .i64 a1, .int .i64 a2]) (.agg #[.int .i64 b0, .int .i64 b1, .int .i64 b2])).run Try.prog w = .ok ((a0 == b0) && ((a1 == b1) && (a2 == b2))) w :=
  ((eqA Try.underlying94 (by kernel_rfl) (eqF_more rfl (part1 Try.underlying2 rfl rfl) (part1 Try.underlying2 rfl rfl) (run_equalIn_int _ _ _ _ _ _ _ Try.underlying2) (eqF_one rfl (partN Try.underlying69 rfl tsz69 rfl) (partN Try.underlying69 rfl tsz69 rfl) (eqA Try.underlying69 (by kernel_rfl) (eqF_more rfl (part1 Try.underlying2 rfl rfl) (part1 Try.underlying2 rfl rfl) (run_equalIn_int _ _ _ _ _ _ _ Try.underlying2) (eqF_one rfl (part1 Try.underlying2 rfl rfl) (part1 Try.underlying2 rfl rfl) (run_equalIn_int _ _ _ _ _ _ _ Try.underlying2))))))) : (Op.equalIn (9997 + 3) 94 (.agg #[.int .i64 a0, .int .i64 a1, .int .i64 a2]) (.agg #[.int .i64 b0, .int .i64 b1, .int .i64 b2])).run Try.prog w = .ok ((a0 == b0) && ((a1 == b1) && (a2 == b2))) w)
theorem eqs134 (w : World) (a0 : Int) (a1 : Int) (b0 : Int) (b1 : Int) : (Op.equalIn 10000 134 (.agg #[.int .i64 a0, .int .i64 a1]) (.agg #[.int .i64 b0, .int .i64 b1])).run Try.prog w = .ok ((a0 == b0) && (a1 == b1)) w :=
  ((eqA Try.underlying134 (by kernel_rfl) (eqF_more rfl (part1 Try.underlying2 rfl rfl) (part1 Try.underlying2 rfl rfl) (run_equalIn_int _ _ _ _ _ _ _ Try.underlying2) (eqF_one rfl (part1 Try.underlying2 rfl rfl) (part1 Try.underlying2 rfl rfl) (run_equalIn_int _ _ _ _ _ _ _ Try.underlying2)))) : (Op.equalIn (9998 + 2) 134 (.agg #[.int .i64 a0, .int .i64 a1]) (.agg #[.int .i64 b0, .int .i64 b1])).run Try.prog w = .ok ((a0 == b0) && (a1 == b1)) w)
end Go.Proofs.Ytkofpnbacgccnaa.Zk
