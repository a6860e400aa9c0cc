/- The law's arguments, opened. Conditions: as each theorem states them. -/
import Derived.Test.YtkofpnbacgccnaaZkTy
import Derived.Test.YtkofpnbacgccnaaZkOpen
namespace Go.Proofs.Ytkofpnbacgccnaa.Zk
open Go Go.RowKit
set_option linter.unusedVariables false
abbrev okIntResult (x : IntResult) : Prop := (iOk .i64) x.fCode ∧ (iOk .i64) x.fValue
abbrev okRef (x : Ref) : Prop := (iOk .i64) x.fTx ∧ (iOk .i64) x.fAt
abbrev okMember (x : Member) : Prop := (iOk .i64) x.fKey ∧ okRef x.fRef
abbrev okRule (x : Rule) : Prop := (Lok (iOk .i64)) x.fKeys ∧ (iOk .i64) x.fNeed ∧ (iOk .i64) x.fAfter
abbrev okBlock (x : Block) : Prop := (iOk .i64) x.fPrev ∧ (iOk .i64) x.fHeight ∧ (iOk .i64) x.fMiner ∧ (Lok (iOk .i64)) x.fTxs
abbrev okNode (x : Node) : Prop := (iOk .i64) x.fId ∧ (iOk .i64) x.fPrev ∧ (iOk .i64) x.fHeight
abbrev okOut (x : Out) : Prop := (iOk .i64) x.fValue ∧ okRule x.fRule
abbrev okCoin (x : Coin) : Prop := okRef x.fRef ∧ okOut x.fOut ∧ (iOk .i64) x.fHeight ∧ bOk x.fMined
abbrev okSign (x : Sign) : Prop := (iOk .i64) x.fKey ∧ (iOk .i64) x.fId
abbrev okLedger (x : Ledger) : Prop := (Lok sOk) x.fTexts ∧ (Lok okSign) x.fSigns
theorem cells2 : Try.prog.cellsOf 2 = 1 := by kernel_rfl
theorem cells4 : Try.prog.cellsOf 4 = 1 := by kernel_rfl
theorem cells9 : Try.prog.cellsOf 9 = 1 := by kernel_rfl
theorem cells28 : Try.prog.cellsOf 28 = 1 := by kernel_rfl
theorem cells34 : Try.prog.cellsOf 34 = 1 := by kernel_rfl
theorem cells36 : Try.prog.cellsOf 36 = 3 := by kernel_rfl
theorem cells47 : Try.prog.cellsOf 47 = 4 := by kernel_rfl
theorem cells54 : Try.prog.cellsOf 54 = 1 := by kernel_rfl
theorem cells62 : Try.prog.cellsOf 62 = 2 := by kernel_rfl
theorem cells64 : Try.prog.cellsOf 64 = 4 := by kernel_rfl
theorem cells66 : Try.prog.cellsOf 66 = 8 := by kernel_rfl
theorem cells77 : Try.prog.cellsOf 77 = 1 := by kernel_rfl
theorem cells78 : Try.prog.cellsOf 78 = 1 := by kernel_rfl
theorem cells80 : Try.prog.cellsOf 80 = 2 := by kernel_rfl
theorem cells97 : Try.prog.cellsOf 97 = 3 := by kernel_rfl
theorem cells115 : Try.prog.cellsOf 115 = 3 := by kernel_rfl
theorem cells147 : Try.prog.cellsOf 147 = 2 := by kernel_rfl
theorem opn2 {H : Type} {enc : TypeId × Value → H} {w : World} {base : Nat} {spare : Nat → Bool} {held : Bool} {fuel : Nat} {cs : List Value} {x : DataW H × List MemPlace} (h : DataW.trod enc Try.prog w base spare held fuel 2 cs = some x) : ∃ y : Int, cs = [.int .i64 y] ∧ iOk .i64 y := by
  obtain ⟨n, h1, _, h2⟩ := DataW.trod_int Try.underlying2 h
  exact ⟨n, h1, h2⟩
theorem opn62 {H : Type} {enc : TypeId × Value → H} {w : World} {base : Nat} {spare : Nat → Bool} {held : Bool} {fuel : Nat} {cs : List Value} {x : DataW H × List MemPlace} (h : DataW.trod enc Try.prog w base spare held fuel 62 cs = some x) : ∃ (y : Ref), cs = [.int .i64 y.fTx, .int .i64 y.fAt] ∧ okRef y := by
  obtain ⟨hl, hf⟩ := trod_fields Try.underlying62 h
  have p0 : cs.take 0 = [] := List.take_zero
  obtain ⟨n0, x0, h0⟩ := hf 0 _ rfl
  obtain ⟨y0, e0, k0⟩ := opn2 h0
  have p1 := seg p0 ((congrArg (fun m => (cs.drop 0).take m) cells2.symm).trans e0)
  obtain ⟨n1, x1, h1⟩ := hf 1 _ rfl
  obtain ⟨y1, e1, k1⟩ := opn2 h1
  have p2 := seg p1 ((congrArg (fun m => (cs.drop 1).take m) cells2.symm).trans e1)
  exact ⟨⟨y0, y1⟩, (seg_all p2 (hl.trans cells62)), ⟨k0, k1⟩⟩
theorem opn97 {H : Type} {enc : TypeId × Value → H} {w : World} {base : Nat} {spare : Nat → Bool} {held : Bool} {fuel : Nat} {cs : List Value} {x : DataW H × List MemPlace} (h : DataW.trod enc Try.prog w base spare held fuel 97 cs = some x) : ∃ (y : Member), cs = [.int .i64 y.fKey, .int .i64 y.fRef.fTx, .int .i64 y.fRef.fAt] ∧ okMember y := by
  obtain ⟨hl, hf⟩ := trod_fields Try.underlying97 h
  have p0 : cs.take 0 = [] := List.take_zero
  obtain ⟨n0, x0, h0⟩ := hf 0 _ rfl
  obtain ⟨y0, e0, k0⟩ := opn2 h0
  have p1 := seg p0 ((congrArg (fun m => (cs.drop 0).take m) cells2.symm).trans e0)
  obtain ⟨n1, x1, h1⟩ := hf 1 _ rfl
  obtain ⟨y1, e1, k1⟩ := opn62 h1
  have p2 := seg p1 ((congrArg (fun m => (cs.drop 1).take m) cells62.symm).trans e1)
  exact ⟨⟨y0, y1⟩, (seg_all p2 (hl.trans cells97)), ⟨k0, k1⟩⟩
theorem opn28 {H : Type} {enc : TypeId × Value → H} {w : World} {base : Nat} {spare : Nat → Bool} {held : Bool} {fuel : Nat} {cs : List Value} {x : DataW H × List MemPlace} (h : DataW.trod enc Try.prog w base spare held fuel 28 cs = some x) : ∃ (ys : List Member) (v : Value), cs = [v] ∧ RdS kMember w v ys ∧ Lok okMember ys :=
  open_rds (d := kMember) (ok := okMember) Try.underlying28 cells97 rfl (fun h => by obtain ⟨y, e, k⟩ := opn97 h; exact ⟨y, e, k⟩) h
theorem opn34 {H : Type} {enc : TypeId × Value → H} {w : World} {base : Nat} {spare : Nat → Bool} {held : Bool} {fuel : Nat} {cs : List Value} {x : DataW H × List MemPlace} (h : DataW.trod enc Try.prog w base spare held fuel 34 cs = some x) : ∃ (ys : List Int) (v : Value), cs = [v] ∧ RdS kInt w v ys ∧ Lok (iOk .i64) ys :=
  open_rds (d := kInt) (ok := (iOk .i64)) Try.underlying34 cells2 rfl (fun h => by obtain ⟨y, e, k⟩ := opn2 h; exact ⟨y, e, k⟩) h
theorem opn36 {H : Type} {enc : TypeId × Value → H} {w : World} {base : Nat} {spare : Nat → Bool} {held : Bool} {fuel : Nat} {cs : List Value} {x : DataW H × List MemPlace} (h : DataW.trod enc Try.prog w base spare held fuel 36 cs = some x) : ∃ (y : Rule) (v0_0 : Value), cs = [v0_0, .int .i64 y.fNeed, .int .i64 y.fAfter] ∧ RdS kInt w v0_0 (y.fKeys) ∧ okRule y := by
  obtain ⟨hl, hf⟩ := trod_fields Try.underlying36 h
  have p0 : cs.take 0 = [] := List.take_zero
  obtain ⟨n0, x0, h0⟩ := hf 0 _ rfl
  obtain ⟨y0, v0_0, e0, r0_0, k0⟩ := opn34 h0
  have p1 := seg p0 ((congrArg (fun m => (cs.drop 0).take m) cells34.symm).trans e0)
  obtain ⟨n1, x1, h1⟩ := hf 1 _ rfl
  obtain ⟨y1, e1, k1⟩ := opn2 h1
  have p2 := seg p1 ((congrArg (fun m => (cs.drop 1).take m) cells2.symm).trans e1)
  obtain ⟨n2, x2, h2⟩ := hf 2 _ rfl
  obtain ⟨y2, e2, k2⟩ := opn2 h2
  have p3 := seg p2 ((congrArg (fun m => (cs.drop 2).take m) cells2.symm).trans e2)
  exact ⟨⟨y0, y1, y2⟩, v0_0, (seg_all p3 (hl.trans cells36)), r0_0, ⟨k0, k1, k2⟩⟩
theorem opn47 {H : Type} {enc : TypeId × Value → H} {w : World} {base : Nat} {spare : Nat → Bool} {held : Bool} {fuel : Nat} {cs : List Value} {x : DataW H × List MemPlace} (h : DataW.trod enc Try.prog w base spare held fuel 47 cs = some x) : ∃ (y : Block) (v3_0 : Value), cs = [.int .i64 y.fPrev, .int .i64 y.fHeight, .int .i64 y.fMiner, v3_0] ∧ RdS kInt w v3_0 (y.fTxs) ∧ okBlock y := by
  obtain ⟨hl, hf⟩ := trod_fields Try.underlying47 h
  have p0 : cs.take 0 = [] := List.take_zero
  obtain ⟨n0, x0, h0⟩ := hf 0 _ rfl
  obtain ⟨y0, e0, k0⟩ := opn2 h0
  have p1 := seg p0 ((congrArg (fun m => (cs.drop 0).take m) cells2.symm).trans e0)
  obtain ⟨n1, x1, h1⟩ := hf 1 _ rfl
  obtain ⟨y1, e1, k1⟩ := opn2 h1
  have p2 := seg p1 ((congrArg (fun m => (cs.drop 1).take m) cells2.symm).trans e1)
  obtain ⟨n2, x2, h2⟩ := hf 2 _ rfl
  obtain ⟨y2, e2, k2⟩ := opn2 h2
  have p3 := seg p2 ((congrArg (fun m => (cs.drop 2).take m) cells2.symm).trans e2)
  obtain ⟨n3, x3, h3⟩ := hf 3 _ rfl
  obtain ⟨y3, v3_0, e3, r3_0, k3⟩ := opn34 h3
  have p4 := seg p3 ((congrArg (fun m => (cs.drop 3).take m) cells34.symm).trans e3)
  exact ⟨⟨y0, y1, y2, y3⟩, v3_0, (seg_all p4 (hl.trans cells47)), r3_0, ⟨k0, k1, k2, k3⟩⟩
theorem opn115 {H : Type} {enc : TypeId × Value → H} {w : World} {base : Nat} {spare : Nat → Bool} {held : Bool} {fuel : Nat} {cs : List Value} {x : DataW H × List MemPlace} (h : DataW.trod enc Try.prog w base spare held fuel 115 cs = some x) : ∃ (y : Node), cs = [.int .i64 y.fId, .int .i64 y.fPrev, .int .i64 y.fHeight] ∧ okNode y := by
  obtain ⟨hl, hf⟩ := trod_fields Try.underlying115 h
  have p0 : cs.take 0 = [] := List.take_zero
  obtain ⟨n0, x0, h0⟩ := hf 0 _ rfl
  obtain ⟨y0, e0, k0⟩ := opn2 h0
  have p1 := seg p0 ((congrArg (fun m => (cs.drop 0).take m) cells2.symm).trans e0)
  obtain ⟨n1, x1, h1⟩ := hf 1 _ rfl
  obtain ⟨y1, e1, k1⟩ := opn2 h1
  have p2 := seg p1 ((congrArg (fun m => (cs.drop 1).take m) cells2.symm).trans e1)
  obtain ⟨n2, x2, h2⟩ := hf 2 _ rfl
  obtain ⟨y2, e2, k2⟩ := opn2 h2
  have p3 := seg p2 ((congrArg (fun m => (cs.drop 2).take m) cells2.symm).trans e2)
  exact ⟨⟨y0, y1, y2⟩, (seg_all p3 (hl.trans cells115)), ⟨k0, k1, k2⟩⟩
theorem opn54 {H : Type} {enc : TypeId × Value → H} {w : World} {base : Nat} {spare : Nat → Bool} {held : Bool} {fuel : Nat} {cs : List Value} {x : DataW H × List MemPlace} (h : DataW.trod enc Try.prog w base spare held fuel 54 cs = some x) : ∃ (ys : List Node) (v : Value), cs = [v] ∧ RdS kNode w v ys ∧ Lok okNode ys :=
  open_rds (d := kNode) (ok := okNode) Try.underlying54 cells115 rfl (fun h => by obtain ⟨y, e, k⟩ := opn115 h; exact ⟨y, e, k⟩) h
theorem opn64 {H : Type} {enc : TypeId × Value → H} {w : World} {base : Nat} {spare : Nat → Bool} {held : Bool} {fuel : Nat} {cs : List Value} {x : DataW H × List MemPlace} (h : DataW.trod enc Try.prog w base spare held fuel 64 cs = some x) : ∃ (y : Out) (v1_0 : Value), cs = [.int .i64 y.fValue, v1_0, .int .i64 y.fRule.fNeed, .int .i64 y.fRule.fAfter] ∧ RdS kInt w v1_0 (y.fRule.fKeys) ∧ okOut y := by
  obtain ⟨hl, hf⟩ := trod_fields Try.underlying64 h
  have p0 : cs.take 0 = [] := List.take_zero
  obtain ⟨n0, x0, h0⟩ := hf 0 _ rfl
  obtain ⟨y0, e0, k0⟩ := opn2 h0
  have p1 := seg p0 ((congrArg (fun m => (cs.drop 0).take m) cells2.symm).trans e0)
  obtain ⟨n1, x1, h1⟩ := hf 1 _ rfl
  obtain ⟨y1, v1_0, e1, r1_0, k1⟩ := opn36 h1
  have p2 := seg p1 ((congrArg (fun m => (cs.drop 1).take m) cells36.symm).trans e1)
  exact ⟨⟨y0, y1⟩, v1_0, (seg_all p2 (hl.trans cells64)), r1_0, ⟨k0, k1⟩⟩
theorem opn4 {H : Type} {enc : TypeId × Value → H} {w : World} {base : Nat} {spare : Nat → Bool} {held : Bool} {fuel : Nat} {cs : List Value} {x : DataW H × List MemPlace} (h : DataW.trod enc Try.prog w base spare held fuel 4 cs = some x) : ∃ y : Bool, cs = [.bool y] ∧ bOk y := by
  obtain ⟨n, h1, _⟩ := DataW.trod_bool Try.underlying4 h
  exact ⟨n, h1, trivial⟩
theorem opn66 {H : Type} {enc : TypeId × Value → H} {w : World} {base : Nat} {spare : Nat → Bool} {held : Bool} {fuel : Nat} {cs : List Value} {x : DataW H × List MemPlace} (h : DataW.trod enc Try.prog w base spare held fuel 66 cs = some x) : ∃ (y : Coin) (v1_0 : Value), cs = [.int .i64 y.fRef.fTx, .int .i64 y.fRef.fAt, .int .i64 y.fOut.fValue, v1_0, .int .i64 y.fOut.fRule.fNeed, .int .i64 y.fOut.fRule.fAfter, .int .i64 y.fHeight, .bool y.fMined] ∧ RdS kInt w v1_0 (y.fOut.fRule.fKeys) ∧ okCoin y := by
  obtain ⟨hl, hf⟩ := trod_fields Try.underlying66 h
  have p0 : cs.take 0 = [] := List.take_zero
  obtain ⟨n0, x0, h0⟩ := hf 0 _ rfl
  obtain ⟨y0, e0, k0⟩ := opn62 h0
  have p1 := seg p0 ((congrArg (fun m => (cs.drop 0).take m) cells62.symm).trans e0)
  obtain ⟨n1, x1, h1⟩ := hf 1 _ rfl
  obtain ⟨y1, v1_0, e1, r1_0, k1⟩ := opn64 h1
  have p2 := seg p1 ((congrArg (fun m => (cs.drop 2).take m) cells64.symm).trans e1)
  obtain ⟨n2, x2, h2⟩ := hf 2 _ rfl
  obtain ⟨y2, e2, k2⟩ := opn2 h2
  have p3 := seg p2 ((congrArg (fun m => (cs.drop 6).take m) cells2.symm).trans e2)
  obtain ⟨n3, x3, h3⟩ := hf 3 _ rfl
  obtain ⟨y3, e3, k3⟩ := opn4 h3
  have p4 := seg p3 ((congrArg (fun m => (cs.drop 7).take m) cells4.symm).trans e3)
  exact ⟨⟨y0, y1, y2, y3⟩, v1_0, (seg_all p4 (hl.trans cells66)), r1_0, ⟨k0, k1, k2, k3⟩⟩
theorem opn9 {H : Type} {enc : TypeId × Value → H} {w : World} {base : Nat} {spare : Nat → Bool} {held : Bool} {fuel : Nat} {cs : List Value} {x : DataW H × List MemPlace} (h : DataW.trod enc Try.prog w base spare held fuel 9 cs = some x) : ∃ y : ByteArray, cs = [.string y] ∧ sOk y := by
  obtain ⟨n, h1, _, h2⟩ := DataW.trod_string Try.underlying9 h
  exact ⟨n, h1, h2⟩
theorem opn77 {H : Type} {enc : TypeId × Value → H} {w : World} {base : Nat} {spare : Nat → Bool} {held : Bool} {fuel : Nat} {cs : List Value} {x : DataW H × List MemPlace} (h : DataW.trod enc Try.prog w base spare held fuel 77 cs = some x) : ∃ (ys : List ByteArray) (v : Value), cs = [v] ∧ RdS kStr w v ys ∧ Lok sOk ys :=
  open_rds (d := kStr) (ok := sOk) Try.underlying77 cells9 rfl (fun h => by obtain ⟨y, e, k⟩ := opn9 h; exact ⟨y, e, k⟩) h
theorem opn147 {H : Type} {enc : TypeId × Value → H} {w : World} {base : Nat} {spare : Nat → Bool} {held : Bool} {fuel : Nat} {cs : List Value} {x : DataW H × List MemPlace} (h : DataW.trod enc Try.prog w base spare held fuel 147 cs = some x) : ∃ (y : Sign), cs = [.int .i64 y.fKey, .int .i64 y.fId] ∧ okSign y := by
  obtain ⟨hl, hf⟩ := trod_fields Try.underlying147 h
  have p0 : cs.take 0 = [] := List.take_zero
  obtain ⟨n0, x0, h0⟩ := hf 0 _ rfl
  obtain ⟨y0, e0, k0⟩ := opn2 h0
  have p1 := seg p0 ((congrArg (fun m => (cs.drop 0).take m) cells2.symm).trans e0)
  obtain ⟨n1, x1, h1⟩ := hf 1 _ rfl
  obtain ⟨y1, e1, k1⟩ := opn2 h1
  have p2 := seg p1 ((congrArg (fun m => (cs.drop 1).take m) cells2.symm).trans e1)
  exact ⟨⟨y0, y1⟩, (seg_all p2 (hl.trans cells147)), ⟨k0, k1⟩⟩
theorem opn78 {H : Type} {enc : TypeId × Value → H} {w : World} {base : Nat} {spare : Nat → Bool} {held : Bool} {fuel : Nat} {cs : List Value} {x : DataW H × List MemPlace} (h : DataW.trod enc Try.prog w base spare held fuel 78 cs = some x) : ∃ (ys : List Sign) (v : Value), cs = [v] ∧ RdS kSign w v ys ∧ Lok okSign ys :=
  open_rds (d := kSign) (ok := okSign) Try.underlying78 cells147 rfl (fun h => by obtain ⟨y, e, k⟩ := opn147 h; exact ⟨y, e, k⟩) h
theorem opn80 {H : Type} {enc : TypeId × Value → H} {w : World} {base : Nat} {spare : Nat → Bool} {held : Bool} {fuel : Nat} {cs : List Value} {x : DataW H × List MemPlace} (h : DataW.trod enc Try.prog w base spare held fuel 80 cs = some x) : ∃ (y : Ledger) (v0_0 : Value) (v1_0 : Value), cs = [v0_0, v1_0] ∧ RdS kStr w v0_0 (y.fTexts) ∧ RdS kSign w v1_0 (y.fSigns) ∧ okLedger y := by
  obtain ⟨hl, hf⟩ := trod_fields Try.underlying80 h
  have p0 : cs.take 0 = [] := List.take_zero
  obtain ⟨n0, x0, h0⟩ := hf 0 _ rfl
  obtain ⟨y0, v0_0, e0, r0_0, k0⟩ := opn77 h0
  have p1 := seg p0 ((congrArg (fun m => (cs.drop 0).take m) cells77.symm).trans e0)
  obtain ⟨n1, x1, h1⟩ := hf 1 _ rfl
  obtain ⟨y1, v1_0, e1, r1_0, k1⟩ := opn78 h1
  have p2 := seg p1 ((congrArg (fun m => (cs.drop 1).take m) cells78.symm).trans e1)
  exact ⟨⟨y0, y1⟩, v0_0, v1_0, (seg_all p2 (hl.trans cells80)), r0_0, r1_0, ⟨k0, k1⟩⟩
theorem laidOut : laidOutB Try.prog = true := by kernel_rfl
end Go.Proofs.Ytkofpnbacgccnaa.Zk
