/- The data of the program, its types' facts. No condition. -/
import Derived.Test.YtecgbhfgkkpmhaaProg
import Derived.Test.YtecgbhfgkkpmhaaZkL
import Derived.Test.YtecgbhfgkkpmhaaZkPure
import Derived.Test.YtecgbhfgkkpmhaaZkQ
import Derived.Test.YtecgbhfgkkpmhaaSrt
import Derived.Test.YtecgbhfgkkpmhaaZkD
namespace Go.Proofs.Ytecgbhfgkkpmhaa.Zk
open Go Go.RowKit Go.IntWalk Go.Proofs
set_option linter.unusedVariables false
set_option linter.unusedSimpArgs false
set_option maxRecDepth 100000
abbrev bs (n m : Nat) : Array Bool := ((List.range n).map fun i => Nat.testBit m i).toArray
theorem onesC {a : Value} {l : List Value} (h : a.oneCell' = true) (hl : ∀ u ∈ l, u.oneCell' = true) : ∀ u ∈ a :: l, u.oneCell' = true := by intro u hu; cases hu with | head => exact h | tail _ h => exact hl u h
theorem onesN : ∀ u ∈ ([] : List Value), u.oneCell' = true := by intro u hu; cases hu
abbrev kInt : Kd Int := Kd.plain 1 (fun x => [.int .i64 x]) (fun _ => rfl) (fun _ => onesC rfl onesN)
abbrev kU8 : Kd Int := Kd.plain 1 (fun x => [.int .u8 x]) (fun _ => rfl) (fun _ => onesC rfl onesN)
structure Ref where
  fTx : Int
  fAt : Int
instance : Inhabited Ref := ⟨⟨default, default⟩⟩
abbrev kRef : Kd Ref := Kd.plain 2 (fun x => [.int .i64 x.fTx, .int .i64 x.fAt]) (fun _ => rfl) (fun _ => (onesC rfl (onesC rfl onesN)))
structure Rule where
  fKeys : List Int
  fNeed : Int
  fAfter : Int
instance : Inhabited Rule := ⟨⟨default, default, default⟩⟩
structure Out where
  fValue : Int
  fRule : Rule
instance : Inhabited Out := ⟨⟨default, default⟩⟩
abbrev kOut : Kd Out := Kd.with1 4 (fun x v => [.int .i64 x.fValue, v, .int .i64 x.fRule.fNeed, .int .i64 x.fRule.fAfter]) (fun x => x.fRule.fKeys) kInt 2 (fun _ _ => rfl) (fun _ _ _ _ => (onesC rfl (onesC rfl (onesC rfl (onesC rfl onesN)))))
structure Coin where
  fRef : Ref
  fOut : Out
  fHeight : Int
  fMined : Bool
instance : Inhabited Coin := ⟨⟨default, default, default, default⟩⟩
abbrev kCoin : Kd Coin := Kd.with1 8 (fun x v => [.int .i64 x.fRef.fTx, .int .i64 x.fRef.fAt, .int .i64 x.fOut.fValue, v, .int .i64 x.fOut.fRule.fNeed, .int .i64 x.fOut.fRule.fAfter, .int .i64 x.fHeight, .bool x.fMined]) (fun x => x.fOut.fRule.fKeys) kInt 2 (fun _ _ => rfl) (fun _ _ _ _ => (onesC rfl (onesC rfl (onesC rfl (onesC rfl (onesC rfl (onesC rfl (onesC rfl (onesC rfl onesN)))))))))
structure l1Src where
  fCode : List Int
  fAt : Int
instance : Inhabited l1Src := ⟨⟨default, default⟩⟩
structure CoinsResult where
  fCode : Int
  fCoins : List Coin
instance : Inhabited CoinsResult := ⟨⟨default, default⟩⟩
structure IntResult where
  fCode : Int
  fValue : Int
instance : Inhabited IntResult := ⟨⟨default, default⟩⟩
theorem tsz2 : tsz Try.prog 2 = some 1 := by kernel_rfl
theorem tby2 : tby Try.prog 2 = some 8 := by kernel_rfl
theorem tz2 : tzero Try.prog 2 = some (.int .i64 0) := by kernel_rfl
theorem tsz3 : tsz Try.prog 3 = some 1 := by kernel_rfl
theorem tsz4 : tsz Try.prog 4 = some 1 := by kernel_rfl
theorem tsz5 : tsz Try.prog 5 = some 1 := by kernel_rfl
theorem tsz22 : tsz Try.prog 22 = some 1 := by kernel_rfl
theorem tsz24 : tsz Try.prog 24 = some 1 := by kernel_rfl
theorem tsz29 : tsz Try.prog 29 = some 2 := by kernel_rfl
theorem tz29 : tzero Try.prog 29 = some (.agg #[(.int .i64 0), (.slice none 0 0)]) := by kernel_rfl
theorem tsz32 : tsz Try.prog 32 = some 1 := by kernel_rfl
theorem tsz34 : tsz Try.prog 34 = some 3 := by kernel_rfl
theorem tz34 : tzero Try.prog 34 = some (.agg #[(.slice none 0 0), (.int .i64 0), (.int .i64 0)]) := by kernel_rfl
theorem tsz36 : tsz Try.prog 36 = some 4 := by kernel_rfl
theorem tby36 : tby Try.prog 36 = some 48 := by kernel_rfl
theorem tz36 : tzero Try.prog 36 = some (.agg #[(.int .i64 0), (.slice none 0 0), (.int .i64 0), (.int .i64 0)]) := by kernel_rfl
theorem tsz38 : tsz Try.prog 38 = some 2 := by kernel_rfl
theorem tby38 : tby Try.prog 38 = some 16 := by kernel_rfl
theorem tz38 : tzero Try.prog 38 = some (.agg #[(.int .i64 0), (.int .i64 0)]) := by kernel_rfl
theorem tsz41 : tsz Try.prog 41 = some 8 := by kernel_rfl
theorem tby41 : tby Try.prog 41 = some 80 := by kernel_rfl
theorem tz41 : tzero Try.prog 41 = some (.agg #[(.int .i64 0), (.int .i64 0), (.int .i64 0), (.slice none 0 0), (.int .i64 0), (.int .i64 0), (.int .i64 0), (.bool false)]) := by kernel_rfl
theorem tsz44 : tsz Try.prog 44 = some 2 := by kernel_rfl
theorem tz44 : tzero Try.prog 44 = some (.agg #[(.int .i64 0), (.int .i64 0)]) := by kernel_rfl
theorem mixed : Try.prog.follows .mixedOrders = true := by kernel_rfl
theorem callok4 : CallOK Try.prog 4 := ⟨_, Try.func4, rfl, rfl⟩
theorem callok5 : CallOK Try.prog 5 := ⟨_, Try.func5, rfl, rfl⟩
theorem callok6 : CallOK Try.prog 6 := ⟨_, Try.func6, rfl, rfl⟩
theorem callok7 : CallOK Try.prog 7 := ⟨_, Try.func7, rfl, rfl⟩
theorem callok8 : CallOK Try.prog 8 := ⟨_, Try.func8, rfl, rfl⟩
theorem callok9 : CallOK Try.prog 9 := ⟨_, Try.func9, rfl, rfl⟩
theorem callok10 : CallOK Try.prog 10 := ⟨_, Try.func10, rfl, rfl⟩
theorem callok11 : CallOK Try.prog 11 := ⟨_, Try.func11, rfl, rfl⟩
theorem callok12 : CallOK Try.prog 12 := ⟨_, Try.func12, rfl, rfl⟩
theorem callok13 : CallOK Try.prog 13 := ⟨_, Try.func13, rfl, rfl⟩
theorem callok14 : CallOK Try.prog 14 := ⟨_, Try.func14, rfl, rfl⟩
theorem callok15 : CallOK Try.prog 15 := ⟨_, Try.func15, rfl, rfl⟩
theorem callok16 : CallOK Try.prog 16 := ⟨_, Try.func16, rfl, rfl⟩
theorem callok17 : CallOK Try.prog 17 := ⟨_, Try.func17, rfl, rfl⟩
theorem callok18 : CallOK Try.prog 18 := ⟨_, Try.func18, rfl, rfl⟩
theorem callok19 : CallOK Try.prog 19 := ⟨_, Try.func19, rfl, rfl⟩
theorem callok20 : CallOK Try.prog 20 := ⟨_, Try.func20, rfl, rfl⟩
theorem callok21 : CallOK Try.prog 21 := ⟨_, Try.func21, rfl, rfl⟩
theorem callok22 : CallOK Try.prog 22 := ⟨_, Try.func22, rfl, rfl⟩
theorem callok23 : CallOK Try.prog 23 := ⟨_, Try.func23, rfl, rfl⟩
theorem callok24 : CallOK Try.prog 24 := ⟨_, Try.func24, rfl, rfl⟩
theorem callok25 : CallOK Try.prog 25 := ⟨_, Try.func25, rfl, rfl⟩
theorem callok26 : CallOK Try.prog 26 := ⟨_, Try.func26, rfl, rfl⟩
theorem callok27 : CallOK Try.prog 27 := ⟨_, Try.func27, rfl, rfl⟩
theorem callok28 : CallOK Try.prog 28 := ⟨_, Try.func28, rfl, rfl⟩
theorem callok29 : CallOK Try.prog 29 := ⟨_, Try.func29, rfl, rfl⟩
theorem callok30 : CallOK Try.prog 30 := ⟨_, Try.func30, rfl, rfl⟩
theorem callok31 : CallOK Try.prog 31 := ⟨_, Try.func31, rfl, rfl⟩
theorem callok32 : CallOK Try.prog 32 := ⟨_, Try.func32, rfl, rfl⟩
theorem callok33 : CallOK Try.prog 33 := ⟨_, Try.func33, rfl, rfl⟩
theorem callok34 : CallOK Try.prog 34 := ⟨_, Try.func34, rfl, rfl⟩
theorem callok35 : CallOK Try.prog 35 := ⟨_, Try.func35, rfl, rfl⟩
theorem callok36 : CallOK Try.prog 36 := ⟨_, Try.func36, rfl, rfl⟩
theorem callok37 : CallOK Try.prog 37 := ⟨_, Try.func37, rfl, rfl⟩
theorem callok38 : CallOK Try.prog 38 := ⟨_, Try.func38, rfl, rfl⟩
theorem callok39 : CallOK Try.prog 39 := ⟨_, Try.func39, rfl, rfl⟩
theorem callok40 : CallOK Try.prog 40 := ⟨_, Try.func40, rfl, rfl⟩
theorem callok41 : CallOK Try.prog 41 := ⟨_, Try.func41, rfl, rfl⟩
theorem callok42 : CallOK Try.prog 42 := ⟨_, Try.func42, rfl, rfl⟩
theorem callok43 : CallOK Try.prog 43 := ⟨_, Try.func43, rfl, rfl⟩
theorem callok44 : CallOK Try.prog 44 := ⟨_, Try.func44, rfl, rfl⟩
theorem callok45 : CallOK Try.prog 45 := ⟨_, Try.func45, rfl, rfl⟩
theorem callok46 : CallOK Try.prog 46 := ⟨_, Try.func46, rfl, rfl⟩
theorem callok47 : CallOK Try.prog 47 := ⟨_, Try.func47, rfl, rfl⟩
theorem callok48 : CallOK Try.prog 48 := ⟨_, Try.func48, rfl, rfl⟩
theorem callok49 : CallOK Try.prog 49 := ⟨_, Try.func49, rfl, rfl⟩
theorem callok50 : CallOK Try.prog 50 := ⟨_, Try.func50, rfl, rfl⟩
theorem callok51 : CallOK Try.prog 51 := ⟨_, Try.func51, rfl, rfl⟩
theorem callok52 : CallOK Try.prog 52 := ⟨_, Try.func52, rfl, rfl⟩
theorem callok53 : CallOK Try.prog 53 := ⟨_, Try.func53, rfl, rfl⟩
theorem callok54 : CallOK Try.prog 54 := ⟨_, Try.func54, rfl, rfl⟩
theorem callok55 : CallOK Try.prog 55 := ⟨_, Try.func55, rfl, rfl⟩
theorem callok56 : CallOK Try.prog 56 := ⟨_, Try.func56, rfl, rfl⟩
theorem callok57 : CallOK Try.prog 57 := ⟨_, Try.func57, rfl, rfl⟩
theorem callok58 : CallOK Try.prog 58 := ⟨_, Try.func58, rfl, rfl⟩
theorem callok59 : CallOK Try.prog 59 := ⟨_, Try.func59, rfl, rfl⟩
theorem callok60 : CallOK Try.prog 60 := ⟨_, Try.func60, rfl, rfl⟩
theorem callok61 : CallOK Try.prog 61 := ⟨_, Try.func61, rfl, rfl⟩
theorem callok62 : CallOK Try.prog 62 := ⟨_, Try.func62, rfl, rfl⟩
theorem callok63 : CallOK Try.prog 63 := ⟨_, Try.func63, rfl, rfl⟩
theorem callok64 : CallOK Try.prog 64 := ⟨_, Try.func64, rfl, rfl⟩
theorem callok65 : CallOK Try.prog 65 := ⟨_, Try.func65, rfl, rfl⟩
theorem callok66 : CallOK Try.prog 66 := ⟨_, Try.func66, rfl, rfl⟩
theorem callok67 : CallOK Try.prog 67 := ⟨_, Try.func67, rfl, rfl⟩
theorem callok69 : CallOK Try.prog 69 := ⟨_, Try.func69, rfl, rfl⟩
theorem callok70 : CallOK Try.prog 70 := ⟨_, Try.func70, rfl, rfl⟩
theorem callok71 : CallOK Try.prog 71 := ⟨_, Try.func71, rfl, rfl⟩
theorem callok72 : CallOK Try.prog 72 := ⟨_, Try.func72, rfl, rfl⟩
theorem callok73 : CallOK Try.prog 73 := ⟨_, Try.func73, rfl, rfl⟩
theorem callok74 : CallOK Try.prog 74 := ⟨_, Try.func74, rfl, rfl⟩
theorem callok75 : CallOK Try.prog 75 := ⟨_, Try.func75, rfl, rfl⟩
theorem callok76 : CallOK Try.prog 76 := ⟨_, Try.func76, rfl, rfl⟩
theorem callok79 : CallOK Try.prog 79 := ⟨_, Try.func79, rfl, rfl⟩
theorem callok80 : CallOK Try.prog 80 := ⟨_, Try.func80, rfl, rfl⟩
theorem eqs38 (w : World) (a0 : Int) (a1 : Int) (b0 : Int) (b1 : Int) : (Op.equalIn 10000 38 (.agg #[.int .i64 a0, .int .i64 a1]) (.agg #[.int .i64 b0, .int .i64 b1])).run Try.prog w = .ok ((a0 == b0) && (a1 == b1)) w :=
  ((eqA Try.underlying38 (by kernel_rfl) (eqF_more rfl (part1 Try.underlying2 rfl rfl) (part1 Try.underlying2 rfl rfl) (run_equalIn_int _ _ _ _ _ _ _ Try.underlying2) (eqF_one rfl (part1 Try.underlying2 rfl rfl) (part1 Try.underlying2 rfl rfl) (run_equalIn_int _ _ _ _ _ _ _ Try.underlying2)))) : (Op.equalIn (9998 + 2) 38 (.agg #[.int .i64 a0, .int .i64 a1]) (.agg #[.int .i64 b0, .int .i64 b1])).run Try.prog w = .ok ((a0 == b0) && (a1 == b1)) w)
end Go.Proofs.Ytecgbhfgkkpmhaa.Zk
