/- The law's arguments, opened. Conditions: as each theorem states them. -/
import Derived.Test.YtbbcabpnkdilgaaTakeMembersZkTy
import Derived.Test.YtbbcabpnkdilgaaZkOpen
namespace Go.Proofs.Ytbbcabpnkdilgaa.Zk
open Go Go.RowKit
set_option linter.unusedVariables false
abbrev okRef (x : Ref) : Prop := (iOk .i64) x.fTx ∧ (iOk .i64) x.fAt
abbrev okMember (x : Member) : Prop := (iOk .i64) x.fKey ∧ okRef x.fRef
abbrev okRule (x : Rule) : Prop := (Lok (iOk .i64)) x.fKeys ∧ (iOk .i64) x.fNeed ∧ (iOk .i64) x.fAfter
abbrev okOut (x : Out) : Prop := (iOk .i64) x.fValue ∧ okRule x.fRule
abbrev okTx (x : Tx) : Prop := (iOk .i64) x.fKind ∧ (iOk .i64) x.fMember ∧ (Lok okRef) x.fIns ∧ (Lok okOut) x.fOuts
abbrev okMembersResult (x : MembersResult) : Prop := (iOk .i64) x.fCode ∧ (Lok okMember) x.fMembers
theorem cells2 : Try.prog.cellsOf 2 = 1 := by kernel_rfl
theorem cells39 : Try.prog.cellsOf 39 = 1 := by kernel_rfl
theorem cells45 : Try.prog.cellsOf 45 = 1 := by kernel_rfl
theorem cells46 : Try.prog.cellsOf 46 = 1 := by kernel_rfl
theorem cells47 : Try.prog.cellsOf 47 = 1 := by kernel_rfl
theorem cells49 : Try.prog.cellsOf 49 = 4 := by kernel_rfl
theorem cells114 : Try.prog.cellsOf 114 = 2 := by kernel_rfl
theorem cells116 : Try.prog.cellsOf 116 = 3 := by kernel_rfl
theorem cells139 : Try.prog.cellsOf 139 = 3 := by kernel_rfl
theorem cells141 : Try.prog.cellsOf 141 = 4 := by kernel_rfl
theorem opn2 {H : Type} {enc : TypeId × Value → H} {w : World} {base : Nat} {spare : Nat → Bool} {held : Bool} {fuel : Nat} {cs : List Value} {x : DataW H × List MemPlace} (h : DataW.trod enc Try.prog w base spare held fuel 2 cs = some x) : ∃ y : Int, cs = [.int .i64 y] ∧ iOk .i64 y := by
  obtain ⟨n, h1, _, h2⟩ := DataW.trod_int Try.underlying2 h
  exact ⟨n, h1, h2⟩
theorem opn114 {H : Type} {enc : TypeId × Value → H} {w : World} {base : Nat} {spare : Nat → Bool} {held : Bool} {fuel : Nat} {cs : List Value} {x : DataW H × List MemPlace} (h : DataW.trod enc Try.prog w base spare held fuel 114 cs = some x) : ∃ (y : Ref), cs = [.int .i64 y.fTx, .int .i64 y.fAt] ∧ okRef y := by
  obtain ⟨hl, hf⟩ := trod_fields Try.underlying114 h
  have p0 : cs.take 0 = [] := List.take_zero
  obtain ⟨n0, x0, h0⟩ := hf 0 _ rfl
  obtain ⟨y0, e0, k0⟩ := opn2 h0
  have p1 := seg p0 ((congrArg (fun m => (cs.drop 0).take m) cells2.symm).trans e0)
  obtain ⟨n1, x1, h1⟩ := hf 1 _ rfl
  obtain ⟨y1, e1, k1⟩ := opn2 h1
  have p2 := seg p1 ((congrArg (fun m => (cs.drop 1).take m) cells2.symm).trans e1)
  exact ⟨⟨y0, y1⟩, (seg_all p2 (hl.trans cells114)), ⟨k0, k1⟩⟩
theorem opn116 {H : Type} {enc : TypeId × Value → H} {w : World} {base : Nat} {spare : Nat → Bool} {held : Bool} {fuel : Nat} {cs : List Value} {x : DataW H × List MemPlace} (h : DataW.trod enc Try.prog w base spare held fuel 116 cs = some x) : ∃ (y : Member), cs = [.int .i64 y.fKey, .int .i64 y.fRef.fTx, .int .i64 y.fRef.fAt] ∧ okMember y := by
  obtain ⟨hl, hf⟩ := trod_fields Try.underlying116 h
  have p0 : cs.take 0 = [] := List.take_zero
  obtain ⟨n0, x0, h0⟩ := hf 0 _ rfl
  obtain ⟨y0, e0, k0⟩ := opn2 h0
  have p1 := seg p0 ((congrArg (fun m => (cs.drop 0).take m) cells2.symm).trans e0)
  obtain ⟨n1, x1, h1⟩ := hf 1 _ rfl
  obtain ⟨y1, e1, k1⟩ := opn114 h1
  have p2 := seg p1 ((congrArg (fun m => (cs.drop 1).take m) cells114.symm).trans e1)
  exact ⟨⟨y0, y1⟩, (seg_all p2 (hl.trans cells116)), ⟨k0, k1⟩⟩
theorem opn45 {H : Type} {enc : TypeId × Value → H} {w : World} {base : Nat} {spare : Nat → Bool} {held : Bool} {fuel : Nat} {cs : List Value} {x : DataW H × List MemPlace} (h : DataW.trod enc Try.prog w base spare held fuel 45 cs = some x) : ∃ (ys : List Member) (v : Value), cs = [v] ∧ RdS kMember w v ys ∧ Lok okMember ys :=
  open_rds (d := kMember) (ok := okMember) Try.underlying45 cells116 rfl (fun h => by obtain ⟨y, e, k⟩ := opn116 h; exact ⟨y, e, k⟩) h
theorem opn46 {H : Type} {enc : TypeId × Value → H} {w : World} {base : Nat} {spare : Nat → Bool} {held : Bool} {fuel : Nat} {cs : List Value} {x : DataW H × List MemPlace} (h : DataW.trod enc Try.prog w base spare held fuel 46 cs = some x) : ∃ (ys : List Ref) (v : Value), cs = [v] ∧ RdS kRef w v ys ∧ Lok okRef ys :=
  open_rds (d := kRef) (ok := okRef) Try.underlying46 cells114 rfl (fun h => by obtain ⟨y, e, k⟩ := opn114 h; exact ⟨y, e, k⟩) h
theorem opn39 {H : Type} {enc : TypeId × Value → H} {w : World} {base : Nat} {spare : Nat → Bool} {held : Bool} {fuel : Nat} {cs : List Value} {x : DataW H × List MemPlace} (h : DataW.trod enc Try.prog w base spare held fuel 39 cs = some x) : ∃ (ys : List Int) (v : Value), cs = [v] ∧ RdS kInt w v ys ∧ Lok (iOk .i64) ys :=
  open_rds (d := kInt) (ok := (iOk .i64)) Try.underlying39 cells2 rfl (fun h => by obtain ⟨y, e, k⟩ := opn2 h; exact ⟨y, e, k⟩) h
theorem opn139 {H : Type} {enc : TypeId × Value → H} {w : World} {base : Nat} {spare : Nat → Bool} {held : Bool} {fuel : Nat} {cs : List Value} {x : DataW H × List MemPlace} (h : DataW.trod enc Try.prog w base spare held fuel 139 cs = some x) : ∃ (y : Rule) (v0_0 : Value), cs = [v0_0, .int .i64 y.fNeed, .int .i64 y.fAfter] ∧ RdS kInt w v0_0 (y.fKeys) ∧ okRule y := by
  obtain ⟨hl, hf⟩ := trod_fields Try.underlying139 h
  have p0 : cs.take 0 = [] := List.take_zero
  obtain ⟨n0, x0, h0⟩ := hf 0 _ rfl
  obtain ⟨y0, v0_0, e0, r0_0, k0⟩ := opn39 h0
  have p1 := seg p0 ((congrArg (fun m => (cs.drop 0).take m) cells39.symm).trans e0)
  obtain ⟨n1, x1, h1⟩ := hf 1 _ rfl
  obtain ⟨y1, e1, k1⟩ := opn2 h1
  have p2 := seg p1 ((congrArg (fun m => (cs.drop 1).take m) cells2.symm).trans e1)
  obtain ⟨n2, x2, h2⟩ := hf 2 _ rfl
  obtain ⟨y2, e2, k2⟩ := opn2 h2
  have p3 := seg p2 ((congrArg (fun m => (cs.drop 2).take m) cells2.symm).trans e2)
  exact ⟨⟨y0, y1, y2⟩, v0_0, (seg_all p3 (hl.trans cells139)), r0_0, ⟨k0, k1, k2⟩⟩
theorem opn141 {H : Type} {enc : TypeId × Value → H} {w : World} {base : Nat} {spare : Nat → Bool} {held : Bool} {fuel : Nat} {cs : List Value} {x : DataW H × List MemPlace} (h : DataW.trod enc Try.prog w base spare held fuel 141 cs = some x) : ∃ (y : Out) (v1_0 : Value), cs = [.int .i64 y.fValue, v1_0, .int .i64 y.fRule.fNeed, .int .i64 y.fRule.fAfter] ∧ RdS kInt w v1_0 (y.fRule.fKeys) ∧ okOut y := by
  obtain ⟨hl, hf⟩ := trod_fields Try.underlying141 h
  have p0 : cs.take 0 = [] := List.take_zero
  obtain ⟨n0, x0, h0⟩ := hf 0 _ rfl
  obtain ⟨y0, e0, k0⟩ := opn2 h0
  have p1 := seg p0 ((congrArg (fun m => (cs.drop 0).take m) cells2.symm).trans e0)
  obtain ⟨n1, x1, h1⟩ := hf 1 _ rfl
  obtain ⟨y1, v1_0, e1, r1_0, k1⟩ := opn139 h1
  have p2 := seg p1 ((congrArg (fun m => (cs.drop 1).take m) cells139.symm).trans e1)
  exact ⟨⟨y0, y1⟩, v1_0, (seg_all p2 (hl.trans cells141)), r1_0, ⟨k0, k1⟩⟩
theorem opn47 {H : Type} {enc : TypeId × Value → H} {w : World} {base : Nat} {spare : Nat → Bool} {held : Bool} {fuel : Nat} {cs : List Value} {x : DataW H × List MemPlace} (h : DataW.trod enc Try.prog w base spare held fuel 47 cs = some x) : ∃ (ys : List Out) (v : Value), cs = [v] ∧ RdS kOut w v ys ∧ Lok okOut ys :=
  open_rds (d := kOut) (ok := okOut) Try.underlying47 cells141 rfl (fun h => by obtain ⟨y, v0, e, r0, k⟩ := opn141 h; exact ⟨y, ⟨v0, e, r0⟩, k⟩) h
theorem opn49 {H : Type} {enc : TypeId × Value → H} {w : World} {base : Nat} {spare : Nat → Bool} {held : Bool} {fuel : Nat} {cs : List Value} {x : DataW H × List MemPlace} (h : DataW.trod enc Try.prog w base spare held fuel 49 cs = some x) : ∃ (y : Tx) (v2_0 : Value) (v3_0 : Value), cs = [.int .i64 y.fKind, .int .i64 y.fMember, v2_0, v3_0] ∧ RdS kRef w v2_0 (y.fIns) ∧ RdS kOut w v3_0 (y.fOuts) ∧ okTx y := by
  obtain ⟨hl, hf⟩ := trod_fields Try.underlying49 h
  have p0 : cs.take 0 = [] := List.take_zero
  obtain ⟨n0, x0, h0⟩ := hf 0 _ rfl
  obtain ⟨y0, e0, k0⟩ := opn2 h0
  have p1 := seg p0 ((congrArg (fun m => (cs.drop 0).take m) cells2.symm).trans e0)
  obtain ⟨n1, x1, h1⟩ := hf 1 _ rfl
  obtain ⟨y1, e1, k1⟩ := opn2 h1
  have p2 := seg p1 ((congrArg (fun m => (cs.drop 1).take m) cells2.symm).trans e1)
  obtain ⟨n2, x2, h2⟩ := hf 2 _ rfl
  obtain ⟨y2, v2_0, e2, r2_0, k2⟩ := opn46 h2
  have p3 := seg p2 ((congrArg (fun m => (cs.drop 2).take m) cells46.symm).trans e2)
  obtain ⟨n3, x3, h3⟩ := hf 3 _ rfl
  obtain ⟨y3, v3_0, e3, r3_0, k3⟩ := opn47 h3
  have p4 := seg p3 ((congrArg (fun m => (cs.drop 3).take m) cells47.symm).trans e3)
  exact ⟨⟨y0, y1, y2, y3⟩, v2_0, v3_0, (seg_all p4 (hl.trans cells49)), r2_0, r3_0, ⟨k0, k1, k2, k3⟩⟩
theorem laidOut : laidOutB Try.prog = true := by kernel_rfl
end Go.Proofs.Ytbbcabpnkdilgaa.Zk
