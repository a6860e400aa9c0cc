/- What functions of the program compute, each as a plain function, and that they do. Conditions: as each theorem states them. -/
import Derived.Test.YtoiacoiccpiciaaIdOfZkF1
namespace Go.Proofs.Ytoiacoiccpiciaa.Zk
open Go Go.RowKit Go.IntWalk Go.Proofs
set_option linter.unusedVariables false
set_option linter.unusedSimpArgs false
set_option maxRecDepth 100000
set_option maxHeartbeats 4000000
def laws_eqIntResult.f (k : Nat) (x0 : IntResult) (x1 : IntResult) : Option Bool := (bif (x0.fCode != x1.fCode) then some false else (bif (x0.fValue != x1.fValue) then some false else some true))
theorem laws_eqIntResult.calls {k : Nat} {x0 : IntResult} {x1 : IntResult}  {w : World}  {r : Bool} (H : laws_eqIntResult.f k x0 x1 = some r) :
    Calls Try.prog 36 ([.agg #[(.int .i64 x0.fCode), (.int .i64 x0.fValue)], .agg #[(.int .i64 x1.fCode), (.int .i64 x1.fValue)]] : List Value).toArray w (fun e w_ => ∃ v, e = .returned v ∧ v = (.bool r) ∧ Mem w [] w_ []) := by
  have HM := Mem.start w
  refine calls_run (N := 15) Try.func36 rfl rfl rfl rfl ?_
  unfold laws_eqIntResult.f at H
  refine run_seq ?_
  refine run_region rfl ?_
  refine ops_does rfl (guard_none rfl) rfl rfl (does_box (cs := [.int .i64 x0.fCode, .int .i64 x0.fValue]) rfl rfl rfl HM) ?_
  rintro _ w1547 ⟨b1541, rfl, HM⟩
  refine ops_does rfl (guard_none rfl) rfl rfl (does_box (cs := [.int .i64 x1.fCode, .int .i64 x1.fValue]) rfl rfl rfl HM) ?_
  rintro _ w1548 ⟨b1544, rfl, HM⟩
  refine ops_ex rfl (guard_none rfl) rfl rfl (ex_assign rfl rfl) ?_
  refine ops_nil ?_
  refine at_then ?_
  refine run_seq ?_
  refine run_seq ?_
  refine run_region rfl ?_
  refine ops_ex rfl (guard_none rfl) rfl rfl (ex_fieldAddr (off' := 0) rfl rfl Try.underlying55 rfl tsz2 rfl) ?_
  refine ops_ex rfl (guard_none rfl) rfl rfl (ex_load1 rfl rfl Try.underlying2 rfl ((HM.box_at 1 rfl) 0 _ rfl)) ?_
  refine ops_ex rfl (guard_none rfl) rfl rfl (ex_fieldAddr (off' := 0) rfl rfl Try.underlying55 rfl tsz2 rfl) ?_
  refine ops_ex rfl (guard_none rfl) rfl rfl (ex_load1 rfl rfl Try.underlying2 rfl ((HM.box_at 0 rfl) 0 _ rfl)) ?_
  refine ops_ex rfl (guard_none rfl) rfl rfl (ex_neq rfl rfl rfl) ?_
  refine ops_nil ?_
  refine at_then ?_
  refine run_cond (b := (x0.fCode != x1.fCode)) rfl (fun hb1550 => ?_) (fun hb1550 => ?_)
  · replace H := cond_t hb1550 H
    refine run_seq ?_
    refine run_region rfl ?_
    refine ops_ex rfl (guard_none rfl) rfl rfl (ex_assign rfl rfl) ?_
    refine ops_nil ?_
    refine at_then ?_
    refine run_ret ?_
    refine at_then_ret ?_
    replace HM := (HM.front 0 rfl rfl).drop
    replace HM := (HM.front 0 rfl rfl).drop
    have hR := Option.some.inj H
    subst hR
    exact at_ret1 rfl rfl ⟨_, rfl, rfl, HM⟩
  · replace H := cond_f hb1550 H
    refine run_skip ?_
    refine at_then ?_
    refine run_seq ?_
    refine run_seq ?_
    refine run_region rfl ?_
    refine ops_ex rfl (guard_none rfl) rfl rfl (ex_fieldAddr (off' := 1) rfl rfl Try.underlying55 rfl tsz2 rfl) ?_
    refine ops_ex rfl (guard_none rfl) rfl rfl (ex_load1 rfl rfl Try.underlying2 rfl ((HM.box_at 1 rfl) 1 _ rfl)) ?_
    refine ops_ex rfl (guard_none rfl) rfl rfl (ex_fieldAddr (off' := 1) rfl rfl Try.underlying55 rfl tsz2 rfl) ?_
    refine ops_ex rfl (guard_none rfl) rfl rfl (ex_load1 rfl rfl Try.underlying2 rfl ((HM.box_at 0 rfl) 1 _ rfl)) ?_
    refine ops_ex rfl (guard_none rfl) rfl rfl (ex_neq rfl rfl rfl) ?_
    refine ops_nil ?_
    refine at_then ?_
    refine run_cond (b := (x0.fValue != x1.fValue)) rfl (fun hb1551 => ?_) (fun hb1551 => ?_)
    · replace H := cond_t hb1551 H
      refine run_seq ?_
      refine run_region rfl ?_
      refine ops_ex rfl (guard_none rfl) rfl rfl (ex_assign rfl rfl) ?_
      refine ops_nil ?_
      refine at_then ?_
      refine run_ret ?_
      refine at_then_ret ?_
      replace HM := (HM.front 0 rfl rfl).drop
      replace HM := (HM.front 0 rfl rfl).drop
      have hR := Option.some.inj H
      subst hR
      exact at_ret1 rfl rfl ⟨_, rfl, rfl, HM⟩
    · replace H := cond_f hb1551 H
      refine run_skip ?_
      refine at_then ?_
      refine run_seq ?_
      refine run_region rfl ?_
      refine ops_ex rfl (guard_none rfl) rfl rfl (ex_assign rfl rfl) ?_
      refine ops_nil ?_
      refine at_then ?_
      refine run_ret ?_
      replace HM := (HM.front 0 rfl rfl).drop
      replace HM := (HM.front 0 rfl rfl).drop
      have hR := Option.some.inj H
      subst hR
      exact at_ret1 rfl rfl ⟨_, rfl, rfl, HM⟩

def laws_eqStringS.l0 (x0 : List ByteArray) (x1 : List ByteArray) : Nat → Int → Option (Bool ⊕ Unit)
  | 0, _ => none
  | k + 1, a1622 => (bif (decide (a1622 < (x0.length : Int))) then (chk (idxOk a1622 x0.length) (chk (idxOk a1622 x1.length) (bif (!sEq (gt x0 a1622) (gt x1 a1622)) then some (.inl false) else laws_eqStringS.l0 x0 x1 k (wrap64 (a1622 + 1))))) else some (.inr ()))
theorem laws_eqStringS.l0_z (x0 : List ByteArray) (x1 : List ByteArray) (a1622 : Int) : laws_eqStringS.l0 x0 x1 0 a1622 = none := rfl
theorem laws_eqStringS.l0_s (x0 : List ByteArray) (x1 : List ByteArray) (k : Nat) (a1622 : Int) : laws_eqStringS.l0 x0 x1 (k + 1) a1622 = (bif (decide (a1622 < (x0.length : Int))) then (chk (idxOk a1622 x0.length) (chk (idxOk a1622 x1.length) (bif (!sEq (gt x0 a1622) (gt x1 a1622)) then some (.inl false) else laws_eqStringS.l0 x0 x1 k (wrap64 (a1622 + 1))))) else some (.inr ())) := rfl
def laws_eqStringS.f (k : Nat) (x0 : List ByteArray) (x1 : List ByteArray) : Option Bool := (bif ((x0.length : Int) != (x1.length : Int)) then some false else ((laws_eqStringS.l0 x0 x1 k 0).bind fun o1614 => thn o1614 (fun r => some r) (fun _ => some true)))
theorem laws_eqStringS.calls {k : Nat} {x0 : List ByteArray} {x1 : List ByteArray} {p0 : Value} {p1 : Value} {w : World} (hp0 : RdS kStr w p0 x0) (hp1 : RdS kStr w p1 x1) {r : Bool} (H : laws_eqStringS.f k x0 x1 = some r) :
    Calls Try.prog 107 ([p0, p1] : List Value).toArray w (fun e w_ => ∃ v, e = .returned v ∧ v = (.bool r) ∧ Mem w [] w_ []) := by
  have HM := Mem.start w
  refine calls_run (N := 26) Try.func107 rfl rfl rfl rfl ?_
  unfold laws_eqStringS.f at H
  refine run_seq ?_
  refine run_region rfl ?_
  refine ops_ex rfl (guard_none rfl) rfl rfl (ex_assign rfl rfl) ?_
  refine ops_nil ?_
  refine at_then ?_
  refine run_seq ?_
  refine run_seq ?_
  refine run_region rfl ?_
  refine ops_ex rfl (guard_none rfl) rfl rfl (ex_move rfl rfl) ?_
  refine ops_ex rfl (guard_none rfl) rfl rfl (ex_len (d := kStr) (xs := x0) rfl rfl Try.underlying61 hp0) ?_
  refine ops_ex rfl (guard_none rfl) rfl rfl (ex_move rfl rfl) ?_
  refine ops_ex rfl (guard_none rfl) rfl rfl (ex_len (d := kStr) (xs := x1) rfl rfl Try.underlying61 hp1) ?_
  refine ops_ex rfl (guard_none rfl) rfl rfl (ex_neq rfl rfl rfl) ?_
  refine ops_nil ?_
  refine at_then ?_
  refine run_cond (b := ((x0.length : Int) != (x1.length : Int))) rfl (fun hb1594 => ?_) (fun hb1594 => ?_)
  · replace H := cond_t hb1594 H
    refine run_seq ?_
    refine run_region rfl ?_
    refine ops_ex rfl (guard_none rfl) rfl rfl (ex_assign rfl rfl) ?_
    refine ops_nil ?_
    refine at_then ?_
    refine run_ret ?_
    refine at_then_ret ?_
    have hR := Option.some.inj H
    subst hR
    exact at_ret1 rfl rfl ⟨_, rfl, rfl, HM⟩
  · replace H := cond_f hb1594 H
    refine run_skip ?_
    refine at_then ?_
    obtain ⟨o1614, ho1615, H⟩ := bind_some H
    refine run_mid (fun ρ_ w_ => Sum.inr () = o1614 ∧ ρ_ = [] ∧ Mem w [] w_ []) ?_ ?_
    · skip
      refine run_seq ?_
      refine run_region rfl ?_
      refine ops_ex rfl (guard_none rfl) rfl rfl (ex_assign rfl rfl) ?_
      refine ops_nil ?_
      refine at_then ?_
      refine run_block ?_
      refine run_loop (fun k_ ρ_ w_ => ∃ a1622 : Int, laws_eqStringS.l0 x0 x1 k_ a1622 = some o1614 ∧ ρ_ = [(0, p0), (1, p1), (5, .int .i64 a1622)] ∧ Mem w [] w_ []) k (ρ1 := [(0, p0), (1, p1), (5, .int .i64 0)]) ⟨_, ho1615, rfl, HM⟩ (Sub.cons rfl (Sub.cons rfl (Sub.cons rfl Sub.nil))) ?_
      clear HM ho1615
      rintro k1629 _ w1630 ⟨a1622, ho1615, rfl, HM⟩
      obtain _ | k1629 := k1629
      · exact nomatch ((laws_eqStringS.l0_z x0 x1 a1622).symm.trans ho1615)
      replace ho1615 := (laws_eqStringS.l0_s x0 x1 k1629 a1622).symm.trans ho1615
      refine run_seq ?_
      refine run_seq ?_
      refine run_region rfl ?_
      refine ops_ex rfl (guard_none rfl) rfl rfl (ex_move rfl rfl) ?_
      refine ops_ex rfl (guard_none rfl) rfl rfl (ex_move rfl rfl) ?_
      refine ops_ex rfl (guard_none rfl) rfl rfl (ex_len (d := kStr) (xs := x0) rfl rfl Try.underlying61 hp0) ?_
      refine ops_ex rfl (guard_none rfl) rfl rfl (ex_lss rfl rfl rfl) ?_
      refine ops_nil ?_
      refine at_then ?_
      refine run_cond (b := (decide (a1622 < (x0.length : Int)))) rfl (fun hb1631 => ?_) (fun hb1631 => ?_)
      · replace ho1615 := cond_t hb1631 ho1615
        refine run_skip ?_
        refine at_then ?_
        refine run_seq ?_
        refine run_block ?_
        refine run_seq ?_
        obtain ⟨e1632, ho1615⟩ := chk_some ho1615
        obtain ⟨e1634, ho1615⟩ := chk_some ho1615
        refine run_drawf (fun w_ => Mem w [] w_ []) [(0, true), (1, true), (2, true), (3, true), (4, true), (5, true), (6, true), (7, true), (8, true)] mixed rfl rfl (by kernel_rfl) ?_
        replace HM := HM.grow (fr_drew _)
        have hS := Mem.suf (M := []) HM
        refine drwp_take rfl (guard_none rfl) rfl rfl (fun w_ hS_ => (ex_move rfl rfl)) hS ?_
        refine drwp_take rfl (guard_none rfl) rfl rfl (fun w_ hS_ => (ex_move rfl rfl)) hS ?_
        have hc1633 : CellsAt _ (sb p0) (so p0 + (a1622).toNat * 1) [(.string (gt x0 a1622))] := rd_plain hp0 e1632
        refine drwp_take rfl (guard_none rfl) rfl rfl (fun w_ hS_ => (ex_indexAddr (d := kStr) rfl rfl rfl Try.underlying61 tsz9 hp0 (idx_lo e1632) (idx_hi e1632))) hS ?_
        refine drwp_take rfl (guard_none rfl) rfl rfl (fun w_ hS_ => (ex_load1 rfl rfl Try.underlying9 rfl ((hS_.at_ hc1633) 0 _ rfl))) hS ?_
        refine drwp_take rfl (guard_none rfl) rfl rfl (fun w_ hS_ => (ex_move rfl rfl)) hS ?_
        refine drwp_take rfl (guard_none rfl) rfl rfl (fun w_ hS_ => (ex_move rfl rfl)) hS ?_
        have hc1635 : CellsAt _ (sb p1) (so p1 + (a1622).toNat * 1) [(.string (gt x1 a1622))] := rd_plain hp1 e1634
        refine drwp_take rfl (guard_none rfl) rfl rfl (fun w_ hS_ => (ex_indexAddr (d := kStr) rfl rfl rfl Try.underlying61 tsz9 hp1 (idx_lo e1634) (idx_hi e1634))) hS ?_
        refine drwp_take rfl (guard_none rfl) rfl rfl (fun w_ hS_ => (ex_load1 rfl rfl Try.underlying9 rfl ((hS_.at_ hc1635) 0 _ rfl))) hS ?_
        refine drwp_take rfl (guard_none rfl) rfl rfl (fun w_ hS_ => (ex_sneq rfl rfl rfl)) hS ?_
        refine drwp_done ?_
        refine at_then ?_
        refine run_cond (b := (!sEq (gt x0 a1622) (gt x1 a1622))) rfl (fun hb1636 => ?_) (fun hb1636 => ?_)
        · replace ho1615 := cond_t hb1636 ho1615
          refine run_seq ?_
          refine run_region rfl ?_
          refine ops_ex rfl (guard_none rfl) rfl rfl (ex_assign rfl rfl) ?_
          refine ops_nil ?_
          refine at_then ?_
          refine run_ret ?_
          refine at_block_ret ?_
          refine at_then_ret ?_
          refine at_then_ret ?_
          refine at_block_ret ?_
          refine at_then_ret ?_
          have hR := Option.some.inj ho1615
          subst hR
          have hT := thn_inl H
          have hR := Option.some.inj hT
          subst hR
          exact at_ret1 rfl rfl ⟨_, rfl, rfl, HM⟩
        · replace ho1615 := cond_f hb1636 ho1615
          refine run_skip ?_
          refine at_block ?_
          refine at_then ?_
          refine run_region rfl ?_
          refine ops_ex rfl (guard_none rfl) rfl rfl (ex_move rfl rfl) ?_
          refine ops_ex rfl (guard_none rfl) rfl rfl (ex_add rfl rfl rfl) ?_
          refine ops_ex rfl (guard_none rfl) rfl rfl (ex_assign rfl rfl) ?_
          refine ops_nil ?_
          exact at_again k1629 (ρ1 := [(0, p0), (1, p1), (5, .int .i64 (wrap64 (a1622 + 1)))]) (Nat.lt_succ_self _) ⟨_, ho1615, rfl, HM⟩ (Sub.cons rfl (Sub.cons rfl (Sub.cons rfl Sub.nil)))
      · replace ho1615 := cond_f hb1631 ho1615
        refine run_exit ?_
        refine at_then_exit ?_
        refine at_then_exit ?_
        refine at_block_exit ?_
        exact at_mid (ρ' := []) ⟨(Option.some.inj ho1615), rfl, HM⟩ Sub.nil
    · rintro _ w1637 ⟨rfl, rfl, HM⟩
      replace H := (thn_inr H)
      refine run_seq ?_
      refine run_region rfl ?_
      refine ops_ex rfl (guard_none rfl) rfl rfl (ex_assign rfl rfl) ?_
      refine ops_nil ?_
      refine at_then ?_
      refine run_ret ?_
      have hR := Option.some.inj H
      subst hR
      exact at_ret1 rfl rfl ⟨_, rfl, rfl, HM⟩

def laws_eqSign.f (k : Nat) (x0 : Sign) (x1 : Sign) : Option Bool := (bif (x0.fKey != x1.fKey) then some false else (bif (x0.fId != x1.fId) then some false else some true))
theorem laws_eqSign.calls {k : Nat} {x0 : Sign} {x1 : Sign}  {w : World}  {r : Bool} (H : laws_eqSign.f k x0 x1 = some r) :
    Calls Try.prog 153 ([.agg #[(.int .i64 x0.fKey), (.int .i64 x0.fId)], .agg #[(.int .i64 x1.fKey), (.int .i64 x1.fId)]] : List Value).toArray w (fun e w_ => ∃ v, e = .returned v ∧ v = (.bool r) ∧ Mem w [] w_ []) := by
  have HM := Mem.start w
  refine calls_run (N := 15) Try.func153 rfl rfl rfl rfl ?_
  unfold laws_eqSign.f at H
  refine run_seq ?_
  refine run_region rfl ?_
  refine ops_does rfl (guard_none rfl) rfl rfl (does_box (cs := [.int .i64 x0.fKey, .int .i64 x0.fId]) rfl rfl rfl HM) ?_
  rintro _ w1666 ⟨b1660, rfl, HM⟩
  refine ops_does rfl (guard_none rfl) rfl rfl (does_box (cs := [.int .i64 x1.fKey, .int .i64 x1.fId]) rfl rfl rfl HM) ?_
  rintro _ w1667 ⟨b1663, rfl, HM⟩
  refine ops_ex rfl (guard_none rfl) rfl rfl (ex_assign rfl rfl) ?_
  refine ops_nil ?_
  refine at_then ?_
  refine run_seq ?_
  refine run_seq ?_
  refine run_region rfl ?_
  refine ops_ex rfl (guard_none rfl) rfl rfl (ex_fieldAddr (off' := 0) rfl rfl Try.underlying171 rfl tsz2 rfl) ?_
  refine ops_ex rfl (guard_none rfl) rfl rfl (ex_load1 rfl rfl Try.underlying2 rfl ((HM.box_at 1 rfl) 0 _ rfl)) ?_
  refine ops_ex rfl (guard_none rfl) rfl rfl (ex_fieldAddr (off' := 0) rfl rfl Try.underlying171 rfl tsz2 rfl) ?_
  refine ops_ex rfl (guard_none rfl) rfl rfl (ex_load1 rfl rfl Try.underlying2 rfl ((HM.box_at 0 rfl) 0 _ rfl)) ?_
  refine ops_ex rfl (guard_none rfl) rfl rfl (ex_neq rfl rfl rfl) ?_
  refine ops_nil ?_
  refine at_then ?_
  refine run_cond (b := (x0.fKey != x1.fKey)) rfl (fun hb1669 => ?_) (fun hb1669 => ?_)
  · replace H := cond_t hb1669 H
    refine run_seq ?_
    refine run_region rfl ?_
    refine ops_ex rfl (guard_none rfl) rfl rfl (ex_assign rfl rfl) ?_
    refine ops_nil ?_
    refine at_then ?_
    refine run_ret ?_
    refine at_then_ret ?_
    replace HM := (HM.front 0 rfl rfl).drop
    replace HM := (HM.front 0 rfl rfl).drop
    have hR := Option.some.inj H
    subst hR
    exact at_ret1 rfl rfl ⟨_, rfl, rfl, HM⟩
  · replace H := cond_f hb1669 H
    refine run_skip ?_
    refine at_then ?_
    refine run_seq ?_
    refine run_seq ?_
    refine run_region rfl ?_
    refine ops_ex rfl (guard_none rfl) rfl rfl (ex_fieldAddr (off' := 1) rfl rfl Try.underlying171 rfl tsz2 rfl) ?_
    refine ops_ex rfl (guard_none rfl) rfl rfl (ex_load1 rfl rfl Try.underlying2 rfl ((HM.box_at 1 rfl) 1 _ rfl)) ?_
    refine ops_ex rfl (guard_none rfl) rfl rfl (ex_fieldAddr (off' := 1) rfl rfl Try.underlying171 rfl tsz2 rfl) ?_
    refine ops_ex rfl (guard_none rfl) rfl rfl (ex_load1 rfl rfl Try.underlying2 rfl ((HM.box_at 0 rfl) 1 _ rfl)) ?_
    refine ops_ex rfl (guard_none rfl) rfl rfl (ex_neq rfl rfl rfl) ?_
    refine ops_nil ?_
    refine at_then ?_
    refine run_cond (b := (x0.fId != x1.fId)) rfl (fun hb1670 => ?_) (fun hb1670 => ?_)
    · replace H := cond_t hb1670 H
      refine run_seq ?_
      refine run_region rfl ?_
      refine ops_ex rfl (guard_none rfl) rfl rfl (ex_assign rfl rfl) ?_
      refine ops_nil ?_
      refine at_then ?_
      refine run_ret ?_
      refine at_then_ret ?_
      replace HM := (HM.front 0 rfl rfl).drop
      replace HM := (HM.front 0 rfl rfl).drop
      have hR := Option.some.inj H
      subst hR
      exact at_ret1 rfl rfl ⟨_, rfl, rfl, HM⟩
    · replace H := cond_f hb1670 H
      refine run_skip ?_
      refine at_then ?_
      refine run_seq ?_
      refine run_region rfl ?_
      refine ops_ex rfl (guard_none rfl) rfl rfl (ex_assign rfl rfl) ?_
      refine ops_nil ?_
      refine at_then ?_
      refine run_ret ?_
      replace HM := (HM.front 0 rfl rfl).drop
      replace HM := (HM.front 0 rfl rfl).drop
      have hR := Option.some.inj H
      subst hR
      exact at_ret1 rfl rfl ⟨_, rfl, rfl, HM⟩

def laws_eqSignS.l0 (x0 : List Sign) (x1 : List Sign) : Nat → Int → Option (Bool ⊕ Unit)
  | 0, _ => none
  | k + 1, a1730 => (bif (decide (a1730 < (x0.length : Int))) then (chk (idxOk a1730 x0.length) (chk (idxOk a1730 x1.length) ((laws_eqSign.f k (gt x0 a1730) (gt x1 a1730)).bind fun t1746 => (bif !t1746 then some (.inl false) else laws_eqSignS.l0 x0 x1 k (wrap64 (a1730 + 1)))))) else some (.inr ()))
theorem laws_eqSignS.l0_z (x0 : List Sign) (x1 : List Sign) (a1730 : Int) : laws_eqSignS.l0 x0 x1 0 a1730 = none := rfl
theorem laws_eqSignS.l0_s (x0 : List Sign) (x1 : List Sign) (k : Nat) (a1730 : Int) : laws_eqSignS.l0 x0 x1 (k + 1) a1730 = (bif (decide (a1730 < (x0.length : Int))) then (chk (idxOk a1730 x0.length) (chk (idxOk a1730 x1.length) ((laws_eqSign.f k (gt x0 a1730) (gt x1 a1730)).bind fun t1746 => (bif !t1746 then some (.inl false) else laws_eqSignS.l0 x0 x1 k (wrap64 (a1730 + 1)))))) else some (.inr ())) := rfl
def laws_eqSignS.f (k : Nat) (x0 : List Sign) (x1 : List Sign) : Option Bool := (bif ((x0.length : Int) != (x1.length : Int)) then some false else ((laws_eqSignS.l0 x0 x1 k 0).bind fun o1720 => thn o1720 (fun r => some r) (fun _ => some true)))
theorem laws_eqSignS.calls {k : Nat} {x0 : List Sign} {x1 : List Sign} {p0 : Value} {p1 : Value} {w : World} (hp0 : RdS kSign w p0 x0) (hp1 : RdS kSign w p1 x1) {r : Bool} (H : laws_eqSignS.f k x0 x1 = some r) :
    Calls Try.prog 108 ([p0, p1] : List Value).toArray w (fun e w_ => ∃ v, e = .returned v ∧ v = (.bool r) ∧ Mem w [] w_ []) := by
  have HM := Mem.start w
  refine calls_run (N := 27) Try.func108 rfl rfl rfl rfl ?_
  unfold laws_eqSignS.f at H
  refine run_seq ?_
  refine run_region rfl ?_
  refine ops_ex rfl (guard_none rfl) rfl rfl (ex_assign rfl rfl) ?_
  refine ops_nil ?_
  refine at_then ?_
  refine run_seq ?_
  refine run_seq ?_
  refine run_region rfl ?_
  refine ops_ex rfl (guard_none rfl) rfl rfl (ex_move rfl rfl) ?_
  refine ops_ex rfl (guard_none rfl) rfl rfl (ex_len (d := kSign) (xs := x0) rfl rfl Try.underlying67 hp0) ?_
  refine ops_ex rfl (guard_none rfl) rfl rfl (ex_move rfl rfl) ?_
  refine ops_ex rfl (guard_none rfl) rfl rfl (ex_len (d := kSign) (xs := x1) rfl rfl Try.underlying67 hp1) ?_
  refine ops_ex rfl (guard_none rfl) rfl rfl (ex_neq rfl rfl rfl) ?_
  refine ops_nil ?_
  refine at_then ?_
  refine run_cond (b := ((x0.length : Int) != (x1.length : Int))) rfl (fun hb1694 => ?_) (fun hb1694 => ?_)
  · replace H := cond_t hb1694 H
    refine run_seq ?_
    refine run_region rfl ?_
    refine ops_ex rfl (guard_none rfl) rfl rfl (ex_assign rfl rfl) ?_
    refine ops_nil ?_
    refine at_then ?_
    refine run_ret ?_
    refine at_then_ret ?_
    have hR := Option.some.inj H
    subst hR
    exact at_ret1 rfl rfl ⟨_, rfl, rfl, HM⟩
  · replace H := cond_f hb1694 H
    refine run_skip ?_
    refine at_then ?_
    obtain ⟨o1720, ho1721, H⟩ := bind_some H
    refine run_mid (fun ρ_ w_ => Sum.inr () = o1720 ∧ ρ_ = [] ∧ Mem w [] w_ []) ?_ ?_
    · skip
      refine run_seq ?_
      refine run_region rfl ?_
      refine ops_ex rfl (guard_none rfl) rfl rfl (ex_assign rfl rfl) ?_
      refine ops_nil ?_
      refine at_then ?_
      refine run_block ?_
      refine run_loop (fun k_ ρ_ w_ => ∃ a1730 : Int, laws_eqSignS.l0 x0 x1 k_ a1730 = some o1720 ∧ ρ_ = [(0, p0), (1, p1), (5, .int .i64 a1730)] ∧ Mem w [] w_ []) k (ρ1 := [(0, p0), (1, p1), (5, .int .i64 0)]) ⟨_, ho1721, rfl, HM⟩ (Sub.cons rfl (Sub.cons rfl (Sub.cons rfl Sub.nil))) ?_
      clear HM ho1721
      rintro k1739 _ w1740 ⟨a1730, ho1721, rfl, HM⟩
      obtain _ | k1739 := k1739
      · exact nomatch ((laws_eqSignS.l0_z x0 x1 a1730).symm.trans ho1721)
      replace ho1721 := (laws_eqSignS.l0_s x0 x1 k1739 a1730).symm.trans ho1721
      refine run_seq ?_
      refine run_seq ?_
      refine run_region rfl ?_
      refine ops_ex rfl (guard_none rfl) rfl rfl (ex_move rfl rfl) ?_
      refine ops_ex rfl (guard_none rfl) rfl rfl (ex_move rfl rfl) ?_
      refine ops_ex rfl (guard_none rfl) rfl rfl (ex_len (d := kSign) (xs := x0) rfl rfl Try.underlying67 hp0) ?_
      refine ops_ex rfl (guard_none rfl) rfl rfl (ex_lss rfl rfl rfl) ?_
      refine ops_nil ?_
      refine at_then ?_
      refine run_cond (b := (decide (a1730 < (x0.length : Int)))) rfl (fun hb1741 => ?_) (fun hb1741 => ?_)
      · replace ho1721 := cond_t hb1741 ho1721
        refine run_skip ?_
        refine at_then ?_
        refine run_seq ?_
        refine run_block ?_
        refine run_seq ?_
        obtain ⟨e1742, ho1721⟩ := chk_some ho1721
        obtain ⟨e1744, ho1721⟩ := chk_some ho1721
        obtain ⟨t1746, h1747, ho1721⟩ := bind_some ho1721
        refine run_drawf (fun w_ => Mem w [] w_ []) [(0, true), (1, true), (2, true), (3, true), (4, true), (5, true), (6, true), (7, true), (8, false), (9, true)] mixed rfl rfl (by kernel_rfl) ?_
        replace HM := HM.grow (fr_drew _)
        have hS := Mem.suf (M := []) HM
        refine drwp_take rfl (guard_none rfl) rfl rfl (fun w_ hS_ => (ex_move rfl rfl)) hS ?_
        refine drwp_take rfl (guard_none rfl) rfl rfl (fun w_ hS_ => (ex_move rfl rfl)) hS ?_
        have hc1743 : CellsAt _ (sb p0) (so p0 + (a1730).toNat * 2) [(.int .i64 ((gt x0 a1730).fKey)), (.int .i64 ((gt x0 a1730).fId))] := rd_plain hp0 e1742
        refine drwp_take rfl (guard_none rfl) rfl rfl (fun w_ hS_ => (ex_indexAddr (d := kSign) rfl rfl rfl Try.underlying67 tsz171 hp0 (idx_lo e1742) (idx_hi e1742))) hS ?_
        refine drwp_take rfl (guard_none rfl) rfl rfl (fun w_ hS_ => (ex_loadN (cs := [(.int .i64 ((gt x0 a1730).fKey)), (.int .i64 ((gt x0 a1730).fId))]) rfl rfl Try.underlying171 rfl tsz171 rfl ((hS_.at_ hc1743).sub 0 2 rfl))) hS ?_
        refine drwp_take rfl (guard_none rfl) rfl rfl (fun w_ hS_ => (ex_move rfl rfl)) hS ?_
        refine drwp_take rfl (guard_none rfl) rfl rfl (fun w_ hS_ => (ex_move rfl rfl)) hS ?_
        have hc1745 : CellsAt _ (sb p1) (so p1 + (a1730).toNat * 2) [(.int .i64 ((gt x1 a1730).fKey)), (.int .i64 ((gt x1 a1730).fId))] := rd_plain hp1 e1744
        refine drwp_take rfl (guard_none rfl) rfl rfl (fun w_ hS_ => (ex_indexAddr (d := kSign) rfl rfl rfl Try.underlying67 tsz171 hp1 (idx_lo e1744) (idx_hi e1744))) hS ?_
        refine drwp_take rfl (guard_none rfl) rfl rfl (fun w_ hS_ => (ex_loadN (cs := [(.int .i64 ((gt x1 a1730).fKey)), (.int .i64 ((gt x1 a1730).fId))]) rfl rfl Try.underlying171 rfl tsz171 rfl ((hS_.at_ hc1745).sub 0 2 rfl))) hS ?_
        refine drwp_one rfl (guard_none rfl) rfl rfl (does_callk rfl callok153 rfl (laws_eqSign.calls (x0 := (gt x0 a1730)) (x1 := (gt x1 a1730)) h1747)) ?_
        rintro _ w1748 ⟨rfl, hn⟩
        replace HM : Mem w [] w1748 [] := HM.call hn
        refine ⟨Mem.suf (M := []) HM, ?_⟩
        have hS := Mem.suf (M := []) HM
        refine drwp_take rfl (guard_none rfl) rfl rfl (fun w_ hS_ => (ex_not rfl rfl)) hS ?_
        refine drwp_done ?_
        refine at_then ?_
        refine run_cond (b := !t1746) rfl (fun hb1749 => ?_) (fun hb1749 => ?_)
        · replace ho1721 := cond_t hb1749 ho1721
          refine run_seq ?_
          refine run_region rfl ?_
          refine ops_ex rfl (guard_none rfl) rfl rfl (ex_assign rfl rfl) ?_
          refine ops_nil ?_
          refine at_then ?_
          refine run_ret ?_
          refine at_block_ret ?_
          refine at_then_ret ?_
          refine at_then_ret ?_
          refine at_block_ret ?_
          refine at_then_ret ?_
          have hR := Option.some.inj ho1721
          subst hR
          have hT := thn_inl H
          have hR := Option.some.inj hT
          subst hR
          exact at_ret1 rfl rfl ⟨_, rfl, rfl, HM⟩
        · replace ho1721 := cond_f hb1749 ho1721
          refine run_skip ?_
          refine at_block ?_
          refine at_then ?_
          refine run_region rfl ?_
          refine ops_ex rfl (guard_none rfl) rfl rfl (ex_move rfl rfl) ?_
          refine ops_ex rfl (guard_none rfl) rfl rfl (ex_add rfl rfl rfl) ?_
          refine ops_ex rfl (guard_none rfl) rfl rfl (ex_assign rfl rfl) ?_
          refine ops_nil ?_
          exact at_again k1739 (ρ1 := [(0, p0), (1, p1), (5, .int .i64 (wrap64 (a1730 + 1)))]) (Nat.lt_succ_self _) ⟨_, ho1721, rfl, HM⟩ (Sub.cons rfl (Sub.cons rfl (Sub.cons rfl Sub.nil)))
      · replace ho1721 := cond_f hb1741 ho1721
        refine run_exit ?_
        refine at_then_exit ?_
        refine at_then_exit ?_
        refine at_block_exit ?_
        exact at_mid (ρ' := []) ⟨(Option.some.inj ho1721), rfl, HM⟩ Sub.nil
    · rintro _ w1750 ⟨rfl, rfl, HM⟩
      replace H := (thn_inr H)
      refine run_seq ?_
      refine run_region rfl ?_
      refine ops_ex rfl (guard_none rfl) rfl rfl (ex_assign rfl rfl) ?_
      refine ops_nil ?_
      refine at_then ?_
      refine run_ret ?_
      have hR := Option.some.inj H
      subst hR
      exact at_ret1 rfl rfl ⟨_, rfl, rfl, HM⟩

def laws_eqLedger.f (k : Nat) (x0 : Ledger) (x1 : Ledger) : Option Bool := ((laws_eqStringS.f k x0.fTexts x1.fTexts).bind fun t1765 => (bif !t1765 then some false else ((laws_eqSignS.f k x0.fSigns x1.fSigns).bind fun t1769 => (bif !t1769 then some false else some true))))
theorem laws_eqLedger.calls {k : Nat} {x0 : Ledger} {x1 : Ledger} {p0_0 : Value} {p0_1 : Value} {p1_0 : Value} {p1_1 : Value} {w : World} (hp0_0 : RdS kStr w p0_0 x0.fTexts) (hp0_1 : RdS kSign w p0_1 x0.fSigns) (hp1_0 : RdS kStr w p1_0 x1.fTexts) (hp1_1 : RdS kSign w p1_1 x1.fSigns) {r : Bool} (H : laws_eqLedger.f k x0 x1 = some r) :
    Calls Try.prog 47 ([.agg #[p0_0, p0_1], .agg #[p1_0, p1_1]] : List Value).toArray w (fun e w_ => ∃ v, e = .returned v ∧ v = (.bool r) ∧ Mem w [] w_ []) := by
  have HM := Mem.start w
  refine calls_run (N := 17) Try.func47 rfl rfl rfl rfl ?_
  unfold laws_eqLedger.f at H
  refine run_seq ?_
  refine run_region rfl ?_
  refine ops_does rfl (guard_none rfl) rfl rfl (does_box (cs := [p0_0, p0_1]) rfl rfl rfl HM) ?_
  rintro _ w1760 ⟨b1754, rfl, HM⟩
  refine ops_does rfl (guard_none rfl) rfl rfl (does_box (cs := [p1_0, p1_1]) rfl rfl rfl HM) ?_
  rintro _ w1761 ⟨b1757, rfl, HM⟩
  refine ops_ex rfl (guard_none rfl) rfl rfl (ex_assign rfl rfl) ?_
  refine ops_nil ?_
  refine at_then ?_
  refine run_seq ?_
  refine run_seq ?_
  obtain ⟨t1765, h1766, H⟩ := bind_some H
  refine run_region rfl ?_
  refine ops_ex rfl (guard_none rfl) rfl rfl (ex_fieldAddr (off' := 0) rfl rfl Try.underlying69 rfl tsz61 rfl) ?_
  refine ops_ex rfl (guard_none rfl) rfl rfl (ex_load1 rfl rfl Try.underlying61 rfl ((HM.box_at 1 rfl) 0 _ rfl)) ?_
  refine ops_ex rfl (guard_none rfl) rfl rfl (ex_fieldAddr (off' := 0) rfl rfl Try.underlying69 rfl tsz61 rfl) ?_
  refine ops_ex rfl (guard_none rfl) rfl rfl (ex_load1 rfl rfl Try.underlying61 rfl ((HM.box_at 0 rfl) 0 _ rfl)) ?_
  refine ops_does rfl (guard_none rfl) rfl rfl (does_callk rfl callok107 rfl (laws_eqStringS.calls (x0 := x0.fTexts) (x1 := x1.fTexts) (HM.rd hp0_0) (HM.rd hp1_0) h1766)) ?_
  rintro _ w1767 ⟨rfl, hn⟩
  replace HM : Mem w [] w1767 [box b1757 69 [p1_0, p1_1], box b1754 69 [p0_0, p0_1]] := HM.call hn
  refine ops_ex rfl (guard_none rfl) rfl rfl (ex_not rfl rfl) ?_
  refine ops_nil ?_
  refine at_then ?_
  refine run_cond (b := !t1765) rfl (fun hb1768 => ?_) (fun hb1768 => ?_)
  · replace H := cond_t hb1768 H
    refine run_seq ?_
    refine run_region rfl ?_
    refine ops_ex rfl (guard_none rfl) rfl rfl (ex_assign rfl rfl) ?_
    refine ops_nil ?_
    refine at_then ?_
    refine run_ret ?_
    refine at_then_ret ?_
    replace HM := (HM.front 0 rfl rfl).drop
    replace HM := (HM.front 0 rfl rfl).drop
    have hR := Option.some.inj H
    subst hR
    exact at_ret1 rfl rfl ⟨_, rfl, rfl, HM⟩
  · replace H := cond_f hb1768 H
    refine run_skip ?_
    refine at_then ?_
    refine run_seq ?_
    refine run_seq ?_
    obtain ⟨t1769, h1770, H⟩ := bind_some H
    refine run_region rfl ?_
    refine ops_ex rfl (guard_none rfl) rfl rfl (ex_fieldAddr (off' := 1) rfl rfl Try.underlying69 rfl tsz67 rfl) ?_
    refine ops_ex rfl (guard_none rfl) rfl rfl (ex_load1 rfl rfl Try.underlying67 rfl ((HM.box_at 1 rfl) 1 _ rfl)) ?_
    refine ops_ex rfl (guard_none rfl) rfl rfl (ex_fieldAddr (off' := 1) rfl rfl Try.underlying69 rfl tsz67 rfl) ?_
    refine ops_ex rfl (guard_none rfl) rfl rfl (ex_load1 rfl rfl Try.underlying67 rfl ((HM.box_at 0 rfl) 1 _ rfl)) ?_
    refine ops_does rfl (guard_none rfl) rfl rfl (does_callk rfl callok108 rfl (laws_eqSignS.calls (x0 := x0.fSigns) (x1 := x1.fSigns) (HM.rd hp0_1) (HM.rd hp1_1) h1770)) ?_
    rintro _ w1771 ⟨rfl, hn⟩
    replace HM : Mem w [] w1771 [box b1757 69 [p1_0, p1_1], box b1754 69 [p0_0, p0_1]] := HM.call hn
    refine ops_ex rfl (guard_none rfl) rfl rfl (ex_not rfl rfl) ?_
    refine ops_nil ?_
    refine at_then ?_
    refine run_cond (b := !t1769) rfl (fun hb1772 => ?_) (fun hb1772 => ?_)
    · replace H := cond_t hb1772 H
      refine run_seq ?_
      refine run_region rfl ?_
      refine ops_ex rfl (guard_none rfl) rfl rfl (ex_assign rfl rfl) ?_
      refine ops_nil ?_
      refine at_then ?_
      refine run_ret ?_
      refine at_then_ret ?_
      replace HM := (HM.front 0 rfl rfl).drop
      replace HM := (HM.front 0 rfl rfl).drop
      have hR := Option.some.inj H
      subst hR
      exact at_ret1 rfl rfl ⟨_, rfl, rfl, HM⟩
    · replace H := cond_f hb1772 H
      refine run_skip ?_
      refine at_then ?_
      refine run_seq ?_
      refine run_region rfl ?_
      refine ops_ex rfl (guard_none rfl) rfl rfl (ex_assign rfl rfl) ?_
      refine ops_nil ?_
      refine at_then ?_
      refine run_ret ?_
      replace HM := (HM.front 0 rfl rfl).drop
      replace HM := (HM.front 0 rfl rfl).drop
      have hR := Option.some.inj H
      subst hR
      exact at_ret1 rfl rfl ⟨_, rfl, rfl, HM⟩

def laws_FnExactIdOf.f (k : Nat) (x0 : Ledger) (x1 : ByteArray) : Option Bool := (bif (decide (1048576 < (x1.size : Int))) then some true else ((laws_szLedger.f k x0 1048576).bind fun t1782 => (bif (decide (t1782 < 0)) then some true else ((laws_toLedger.f k x0).bind fun t1787 => ((spec_IdOf.f k t1787 x1).bind fun t1793 => ((laws_toLedger.f k x0).bind fun t1802 => ((impl_IdOf.f k t1802 x1).bind fun t1814 => ((laws_eqIntResult.f k t1814 t1793).bind fun t1825 => (bif !t1825 then some false else ((laws_toLedger.f k x0).bind fun t1829 => ((laws_eqLedger.f k t1802 t1829).bind fun t1835 => (bif !t1835 then some false else some true))))))))))))
theorem laws_FnExactIdOf.calls {k : Nat} {x0 : Ledger} {x1 : ByteArray} {p0_0 : Value} {p0_1 : Value} {w : World} (hp0_0 : RdS kStr w p0_0 x0.fTexts) (hp0_1 : RdS kSign w p0_1 x0.fSigns) {r : Bool} (H : laws_FnExactIdOf.f k x0 x1 = some r) :
    Calls Try.prog 12 ([.agg #[p0_0, p0_1], .string x1] : List Value).toArray w (fun e w_ => ∃ v, e = .returned v ∧ v = (.bool r) ∧ Mem w [] w_ []) := by
  have HM := Mem.start w
  refine calls_run (N := 35) Try.func12 rfl rfl rfl rfl ?_
  unfold laws_FnExactIdOf.f at H
  refine run_seq ?_
  refine run_region rfl ?_
  refine ops_does rfl (guard_none rfl) rfl rfl (does_box (cs := [p0_0, p0_1]) rfl rfl rfl HM) ?_
  rintro _ w1779 ⟨b1776, rfl, HM⟩
  refine ops_ex rfl (guard_none rfl) rfl rfl (ex_assign rfl rfl) ?_
  refine ops_nil ?_
  refine at_then ?_
  refine run_seq ?_
  refine run_seq ?_
  refine run_region rfl ?_
  refine ops_ex rfl (guard_none rfl) rfl rfl (ex_move rfl rfl) ?_
  refine ops_ex rfl (guard_none rfl) rfl rfl (ex_strlen rfl rfl Try.underlying9) ?_
  refine ops_ex rfl (guard_none rfl) rfl rfl (ex_gtr rfl rfl rfl) ?_
  refine ops_nil ?_
  refine at_then ?_
  refine run_cond (b := (decide (1048576 < (x1.size : Int)))) rfl (fun hb1781 => ?_) (fun hb1781 => ?_)
  · replace H := cond_t hb1781 H
    refine run_seq ?_
    refine run_region rfl ?_
    refine ops_ex rfl (guard_none rfl) rfl rfl (ex_assign rfl rfl) ?_
    refine ops_nil ?_
    refine at_then ?_
    refine run_ret ?_
    refine at_then_ret ?_
    replace HM := (HM.front 0 rfl rfl).drop
    have hR := Option.some.inj H
    subst hR
    exact at_ret1 rfl rfl ⟨_, rfl, rfl, HM⟩
  · replace H := cond_f hb1781 H
    refine run_skip ?_
    refine at_then ?_
    refine run_seq ?_
    refine run_region rfl ?_
    refine ops_ex rfl (guard_none rfl) rfl rfl (ex_assign rfl rfl) ?_
    refine ops_nil ?_
    refine at_then ?_
    refine run_seq ?_
    obtain ⟨t1782, h1783, H⟩ := bind_some H
    refine run_region rfl ?_
    refine ops_ex rfl (guard_none rfl) rfl rfl (ex_loadN (cs := [p0_0, p0_1]) rfl rfl Try.underlying64 rfl tsz64 rfl ((HM.box_at 0 rfl).sub 0 2 rfl)) ?_
    refine ops_ex rfl (guard_none rfl) rfl rfl (ex_move rfl rfl) ?_
    refine ops_does rfl (guard_none rfl) rfl rfl (does_callk rfl callok43 rfl (laws_szLedger.calls (x0 := x0) (x1 := 1048576) (HM.rd hp0_0) (HM.rd hp0_1) h1783)) ?_
    rintro _ w1784 ⟨rfl, hn⟩
    replace HM : Mem w [] w1784 [box b1776 64 [p0_0, p0_1]] := HM.call hn
    refine ops_ex rfl (guard_none rfl) rfl rfl (ex_assign rfl rfl) ?_
    refine ops_nil ?_
    refine at_then ?_
    refine run_seq ?_
    refine run_seq ?_
    refine run_region rfl ?_
    refine ops_ex rfl (guard_none rfl) rfl rfl (ex_move rfl rfl) ?_
    refine ops_ex rfl (guard_none rfl) rfl rfl (ex_lss rfl rfl rfl) ?_
    refine ops_nil ?_
    refine at_then ?_
    refine run_cond (b := (decide (t1782 < 0))) rfl (fun hb1786 => ?_) (fun hb1786 => ?_)
    · replace H := cond_t hb1786 H
      refine run_seq ?_
      refine run_region rfl ?_
      refine ops_ex rfl (guard_none rfl) rfl rfl (ex_assign rfl rfl) ?_
      refine ops_nil ?_
      refine at_then ?_
      refine run_ret ?_
      refine at_then_ret ?_
      replace HM := (HM.front 0 rfl rfl).drop
      have hR := Option.some.inj H
      subst hR
      exact at_ret1 rfl rfl ⟨_, rfl, rfl, HM⟩
    · replace H := cond_f hb1786 H
      refine run_skip ?_
      refine at_then ?_
      refine run_seq ?_
      obtain ⟨t1787, h1788, H⟩ := bind_some H
      obtain ⟨t1793, h1794, H⟩ := bind_some H
      refine run_region rfl ?_
      refine ops_ex rfl (guard_none rfl) rfl rfl (ex_loadN (cs := [p0_0, p0_1]) rfl rfl Try.underlying64 rfl tsz64 rfl ((HM.box_at 0 rfl).sub 0 2 rfl)) ?_
      refine ops_does rfl (guard_none rfl) rfl rfl (does_callk rfl callok45 rfl (laws_toLedger.calls (x0 := x0) (HM.rd hp0_0) (HM.rd hp0_1) h1788)) ?_
      rintro _ w1798 ⟨u1789, u1791, rfl, hn⟩
      replace HM : Mem w [] w1798 [own kStr 9 u1789 t1787.fTexts, own kSign 171 u1791 t1787.fSigns, box b1776 64 [p0_0, p0_1]] := HM.call hn
      refine ops_ex rfl (guard_none rfl) rfl rfl (ex_move rfl rfl) ?_
      refine ops_does rfl (guard_none rfl) rfl rfl (does_callk rfl callok44 rfl (spec_IdOf.calls (x0 := t1787) (x1 := x1) (HM.own_rd 0 rfl) (HM.own_rd 1 rfl) h1794)) ?_
      rintro _ w1799 ⟨rfl, hn⟩
      replace HM : Mem w [] w1799 [own kStr 9 u1789 t1787.fTexts, own kSign 171 u1791 t1787.fSigns, box b1776 64 [p0_0, p0_1]] := HM.call hn
      refine ops_does rfl (guard_none rfl) rfl rfl (does_alloc (cs := [.int .i64 0, .int .i64 0]) rfl tz55 rfl HM) ?_
      rintro _ w1800 ⟨b1795, rfl, HM⟩
      refine ops_doesS rfl (guard_none rfl) rfl (does_store (vs := [.int .i64 t1793.fCode, .int .i64 t1793.fValue]) (cs' := [.int .i64 t1793.fCode, .int .i64 t1793.fValue]) rfl rfl rfl rfl tsz55 (Ones.int (Ones.int Ones.nil)) rfl rfl HM) ?_
      rintro w1801 HM
      refine ops_nil ?_
      refine at_then ?_
      refine run_seq ?_
      obtain ⟨t1802, h1803, H⟩ := bind_some H
      refine run_region rfl ?_
      refine ops_ex rfl (guard_none rfl) rfl rfl (ex_loadN (cs := [p0_0, p0_1]) rfl rfl Try.underlying64 rfl tsz64 rfl ((HM.box_at 3 rfl).sub 0 2 rfl)) ?_
      refine ops_does rfl (guard_none rfl) rfl rfl (does_callk rfl callok45 rfl (laws_toLedger.calls (x0 := x0) (HM.rd hp0_0) (HM.rd hp0_1) h1803)) ?_
      rintro _ w1811 ⟨u1804, u1806, rfl, hn⟩
      replace HM : Mem w [] w1811 [own kStr 9 u1804 t1802.fTexts, own kSign 171 u1806 t1802.fSigns, box b1795 55 [.int .i64 t1793.fCode, .int .i64 t1793.fValue], own kStr 9 u1789 t1787.fTexts, own kSign 171 u1791 t1787.fSigns, box b1776 64 [p0_0, p0_1]] := HM.call hn
      refine ops_does rfl (guard_none rfl) rfl rfl (does_alloc (cs := [.slice none 0 0, .slice none 0 0]) rfl tz69 rfl HM) ?_
      rintro _ w1812 ⟨b1808, rfl, HM⟩
      refine ops_doesS rfl (guard_none rfl) rfl (does_store (vs := [u1804, u1806]) (cs' := [u1804, u1806]) rfl rfl rfl rfl tsz69 (Ones.rd (HM.own_rd 1 rfl) (Ones.rd (HM.own_rd 2 rfl) Ones.nil)) rfl rfl HM) ?_
      rintro w1813 HM
      refine ops_nil ?_
      refine at_then ?_
      refine run_seq ?_
      obtain ⟨t1814, h1815, H⟩ := bind_some H
      refine run_region rfl ?_
      refine ops_ex rfl (guard_none rfl) rfl rfl (ex_loadN (cs := [u1804, u1806]) rfl rfl Try.underlying69 rfl tsz69 rfl ((HM.box_at 0 rfl).sub 0 2 rfl)) ?_
      refine ops_ex rfl (guard_none rfl) rfl rfl (ex_move rfl rfl) ?_
      refine ops_does rfl (guard_none rfl) rfl rfl (does_callk rfl callok46 rfl (impl_IdOf.calls (x0 := t1802) (x1 := x1) (HM.own_rd 1 rfl) (HM.own_rd 2 rfl) h1815)) ?_
      rintro _ w1819 ⟨rfl, hn⟩
      replace HM : Mem w [] w1819 [box b1808 69 [u1804, u1806], own kStr 9 u1804 t1802.fTexts, own kSign 171 u1806 t1802.fSigns, box b1795 55 [.int .i64 t1793.fCode, .int .i64 t1793.fValue], own kStr 9 u1789 t1787.fTexts, own kSign 171 u1791 t1787.fSigns, box b1776 64 [p0_0, p0_1]] := HM.call hn
      refine ops_does rfl (guard_none rfl) rfl rfl (does_alloc (cs := [.int .i64 0, .int .i64 0]) rfl tz55 rfl HM) ?_
      rintro _ w1820 ⟨b1816, rfl, HM⟩
      refine ops_doesS rfl (guard_none rfl) rfl (does_store (vs := [.int .i64 t1814.fCode, .int .i64 t1814.fValue]) (cs' := [.int .i64 t1814.fCode, .int .i64 t1814.fValue]) rfl rfl rfl rfl tsz55 (Ones.int (Ones.int Ones.nil)) rfl rfl HM) ?_
      rintro w1821 HM
      refine ops_nil ?_
      refine at_then ?_
      refine run_seq ?_
      refine run_seq ?_
      obtain ⟨t1825, h1826, H⟩ := bind_some H
      refine run_region rfl ?_
      refine ops_ex rfl (guard_none rfl) rfl rfl (ex_loadN (cs := [(.int .i64 t1814.fCode), (.int .i64 t1814.fValue)]) rfl rfl Try.underlying55 rfl tsz55 rfl ((HM.box_at 0 rfl).sub 0 2 rfl)) ?_
      refine ops_ex rfl (guard_none rfl) rfl rfl (ex_loadN (cs := [(.int .i64 t1793.fCode), (.int .i64 t1793.fValue)]) rfl rfl Try.underlying55 rfl tsz55 rfl ((HM.box_at 4 rfl).sub 0 2 rfl)) ?_
      refine ops_does rfl (guard_none rfl) rfl rfl (does_callk rfl callok36 rfl (laws_eqIntResult.calls (x0 := t1814) (x1 := t1793) h1826)) ?_
      rintro _ w1827 ⟨rfl, hn⟩
      replace HM : Mem w [] w1827 [box b1816 55 [.int .i64 t1814.fCode, .int .i64 t1814.fValue], box b1808 69 [u1804, u1806], own kStr 9 u1804 t1802.fTexts, own kSign 171 u1806 t1802.fSigns, box b1795 55 [.int .i64 t1793.fCode, .int .i64 t1793.fValue], own kStr 9 u1789 t1787.fTexts, own kSign 171 u1791 t1787.fSigns, box b1776 64 [p0_0, p0_1]] := HM.call hn
      refine ops_ex rfl (guard_none rfl) rfl rfl (ex_not rfl rfl) ?_
      refine ops_nil ?_
      refine at_then ?_
      refine run_cond (b := !t1825) rfl (fun hb1828 => ?_) (fun hb1828 => ?_)
      · replace H := cond_t hb1828 H
        refine run_seq ?_
        refine run_region rfl ?_
        refine ops_ex rfl (guard_none rfl) rfl rfl (ex_assign rfl rfl) ?_
        refine ops_nil ?_
        refine at_then ?_
        refine run_ret ?_
        refine at_then_ret ?_
        replace HM := (HM.front 0 rfl rfl).drop
        replace HM := (HM.front 0 rfl rfl).drop
        replace HM := (HM.front 0 rfl rfl).drop
        replace HM := (HM.front 0 rfl rfl).drop
        replace HM := (HM.front 0 rfl rfl).drop
        replace HM := (HM.front 0 rfl rfl).drop
        replace HM := (HM.front 0 rfl rfl).drop
        replace HM := (HM.front 0 rfl rfl).drop
        have hR := Option.some.inj H
        subst hR
        exact at_ret1 rfl rfl ⟨_, rfl, rfl, HM⟩
      · replace H := cond_f hb1828 H
        refine run_skip ?_
        refine at_then ?_
        refine run_seq ?_
        refine run_seq ?_
        obtain ⟨t1829, h1830, H⟩ := bind_some H
        obtain ⟨t1835, h1836, H⟩ := bind_some H
        refine run_drawf (fun w_ => Mem w [] w_ [box b1816 55 [.int .i64 t1814.fCode, .int .i64 t1814.fValue], box b1808 69 [u1804, u1806], own kStr 9 u1804 t1802.fTexts, own kSign 171 u1806 t1802.fSigns, box b1795 55 [.int .i64 t1793.fCode, .int .i64 t1793.fValue], own kStr 9 u1789 t1787.fTexts, own kSign 171 u1791 t1787.fSigns, box b1776 64 [p0_0, p0_1]]) [(0, true), (1, true), (2, false), (3, false), (4, true)] mixed rfl rfl (by kernel_rfl) ?_
        replace HM := HM.grow (fr_drew _)
        have hS := Mem.suf (M := []) HM
        refine drwp_take rfl (guard_none rfl) rfl rfl (fun w_ hS_ => (ex_loadN (cs := [u1804, u1806]) rfl rfl Try.underlying69 rfl tsz69 rfl ((hS_.box_at 1 rfl).sub 0 2 rfl))) hS ?_
        refine drwp_take rfl (guard_none rfl) rfl rfl (fun w_ hS_ => (ex_loadN (cs := [p0_0, p0_1]) rfl rfl Try.underlying64 rfl tsz64 rfl ((hS_.box_at 7 rfl).sub 0 2 rfl))) hS ?_
        refine drwp_one rfl (guard_none rfl) rfl rfl (does_callk rfl callok45 rfl (laws_toLedger.calls (x0 := x0) (HM.rd hp0_0) (HM.rd hp0_1) h1830)) ?_
        rintro _ w1837 ⟨u1831, u1833, rfl, hn⟩
        replace HM : Mem w [] w1837 [own kStr 9 u1831 t1829.fTexts, own kSign 171 u1833 t1829.fSigns, box b1816 55 [.int .i64 t1814.fCode, .int .i64 t1814.fValue], box b1808 69 [u1804, u1806], own kStr 9 u1804 t1802.fTexts, own kSign 171 u1806 t1802.fSigns, box b1795 55 [.int .i64 t1793.fCode, .int .i64 t1793.fValue], own kStr 9 u1789 t1787.fTexts, own kSign 171 u1791 t1787.fSigns, box b1776 64 [p0_0, p0_1]] := HM.call hn
        refine ⟨Mem.suf (M := [own kStr 9 u1831 t1829.fTexts, own kSign 171 u1833 t1829.fSigns]) HM, ?_⟩
        have hS := Mem.suf (M := [own kStr 9 u1831 t1829.fTexts, own kSign 171 u1833 t1829.fSigns]) HM
        refine drwp_one rfl (guard_none rfl) rfl rfl (does_callk rfl callok47 rfl (laws_eqLedger.calls (x0 := t1802) (x1 := t1829) (HM.own_rd 4 rfl) (HM.own_rd 5 rfl) (HM.own_rd 0 rfl) (HM.own_rd 1 rfl) h1836)) ?_
        rintro _ w1838 ⟨rfl, hn⟩
        replace HM : Mem w [] w1838 [own kStr 9 u1831 t1829.fTexts, own kSign 171 u1833 t1829.fSigns, box b1816 55 [.int .i64 t1814.fCode, .int .i64 t1814.fValue], box b1808 69 [u1804, u1806], own kStr 9 u1804 t1802.fTexts, own kSign 171 u1806 t1802.fSigns, box b1795 55 [.int .i64 t1793.fCode, .int .i64 t1793.fValue], own kStr 9 u1789 t1787.fTexts, own kSign 171 u1791 t1787.fSigns, box b1776 64 [p0_0, p0_1]] := HM.call hn
        refine ⟨Mem.suf (M := [own kStr 9 u1831 t1829.fTexts, own kSign 171 u1833 t1829.fSigns]) HM, ?_⟩
        have hS := Mem.suf (M := [own kStr 9 u1831 t1829.fTexts, own kSign 171 u1833 t1829.fSigns]) HM
        refine drwp_take rfl (guard_none rfl) rfl rfl (fun w_ hS_ => (ex_not rfl rfl)) hS ?_
        refine drwp_done ?_
        refine at_then ?_
        refine run_cond (b := !t1835) rfl (fun hb1839 => ?_) (fun hb1839 => ?_)
        · replace H := cond_t hb1839 H
          refine run_seq ?_
          refine run_region rfl ?_
          refine ops_ex rfl (guard_none rfl) rfl rfl (ex_assign rfl rfl) ?_
          refine ops_nil ?_
          refine at_then ?_
          refine run_ret ?_
          refine at_then_ret ?_
          replace HM := (HM.front 0 rfl rfl).drop
          replace HM := (HM.front 0 rfl rfl).drop
          replace HM := (HM.front 0 rfl rfl).drop
          replace HM := (HM.front 0 rfl rfl).drop
          replace HM := (HM.front 0 rfl rfl).drop
          replace HM := (HM.front 0 rfl rfl).drop
          replace HM := (HM.front 0 rfl rfl).drop
          replace HM := (HM.front 0 rfl rfl).drop
          replace HM := (HM.front 0 rfl rfl).drop
          replace HM := (HM.front 0 rfl rfl).drop
          have hR := Option.some.inj H
          subst hR
          exact at_ret1 rfl rfl ⟨_, rfl, rfl, HM⟩
        · replace H := cond_f hb1839 H
          refine run_skip ?_
          refine at_then ?_
          refine run_seq ?_
          refine run_region rfl ?_
          refine ops_ex rfl (guard_none rfl) rfl rfl (ex_assign rfl rfl) ?_
          refine ops_nil ?_
          refine at_then ?_
          refine run_ret ?_
          replace HM := (HM.front 0 rfl rfl).drop
          replace HM := (HM.front 0 rfl rfl).drop
          replace HM := (HM.front 0 rfl rfl).drop
          replace HM := (HM.front 0 rfl rfl).drop
          replace HM := (HM.front 0 rfl rfl).drop
          replace HM := (HM.front 0 rfl rfl).drop
          replace HM := (HM.front 0 rfl rfl).drop
          replace HM := (HM.front 0 rfl rfl).drop
          replace HM := (HM.front 0 rfl rfl).drop
          replace HM := (HM.front 0 rfl rfl).drop
          have hR := Option.some.inj H
          subst hR
          exact at_ret1 rfl rfl ⟨_, rfl, rfl, HM⟩
end Go.Proofs.Ytoiacoiccpiciaa.Zk
