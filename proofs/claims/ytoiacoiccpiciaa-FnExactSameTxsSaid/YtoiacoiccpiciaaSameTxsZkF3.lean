/- What functions of the program compute, each as a plain function, and that they do. Conditions: as each theorem states them. -/
import Derived.Test.YtoiacoiccpiciaaSameTxsZkF2
namespace Go.Proofs.Ytoiacoiccpiciaa.Zk
open Go Go.RowKit Go.IntWalk Go.Proofs
set_option linter.unusedVariables false
set_option linter.unusedSimpArgs false
set_option maxRecDepth 100000
set_option maxHeartbeats 4000000
def laws_eqRefS.l0 (x0 : List Ref) (x1 : List Ref) : Nat → Int → Option (Bool ⊕ Unit)
  | 0, _ => none
  | k + 1, a1496 => (bif (decide (a1496 < (x0.length : Int))) then (chk (idxOk a1496 x0.length) (chk (idxOk a1496 x1.length) ((laws_eqRef.f k (gt x0 a1496) (gt x1 a1496)).bind fun t1512 => (bif !t1512 then some (.inl false) else laws_eqRefS.l0 x0 x1 k (wrap64 (a1496 + 1)))))) else some (.inr ()))
theorem laws_eqRefS.l0_z (x0 : List Ref) (x1 : List Ref) (a1496 : Int) : laws_eqRefS.l0 x0 x1 0 a1496 = none := rfl
theorem laws_eqRefS.l0_s (x0 : List Ref) (x1 : List Ref) (k : Nat) (a1496 : Int) : laws_eqRefS.l0 x0 x1 (k + 1) a1496 = (bif (decide (a1496 < (x0.length : Int))) then (chk (idxOk a1496 x0.length) (chk (idxOk a1496 x1.length) ((laws_eqRef.f k (gt x0 a1496) (gt x1 a1496)).bind fun t1512 => (bif !t1512 then some (.inl false) else laws_eqRefS.l0 x0 x1 k (wrap64 (a1496 + 1)))))) else some (.inr ())) := rfl
def laws_eqRefS.f (k : Nat) (x0 : List Ref) (x1 : List Ref) : Option Bool := (bif ((x0.length : Int) != (x1.length : Int)) then some false else ((laws_eqRefS.l0 x0 x1 k 0).bind fun o1486 => thn o1486 (fun r => some r) (fun _ => some true)))
theorem laws_eqRefS.calls {k : Nat} {x0 : List Ref} {x1 : List Ref} {p0 : Value} {p1 : Value} {w : World} (hp0 : RdS kRef w p0 x0) (hp1 : RdS kRef w p1 x1) {r : Bool} (H : laws_eqRefS.f k x0 x1 = some r) :
    Calls Try.prog 76 ([p0, p1] : List Value).toArray w (fun e w_ => ∃ v, e = .returned v ∧ v = (.bool r) ∧ Mem w [] w_ []) := by
  have HM := Mem.start w
  refine calls_run (N := 27) Try.func76 rfl rfl rfl rfl ?_
  unfold laws_eqRefS.f at H
  refine run_seq ?_
  refine run_region rfl ?_
  refine ops_ex rfl (guard_none rfl) rfl rfl (ex_assign rfl rfl) ?_
  refine ops_nil ?_
  refine at_then ?_
  refine run_seq ?_
  refine run_seq ?_
  refine run_region rfl ?_
  refine ops_ex rfl (guard_none rfl) rfl rfl (ex_move rfl rfl) ?_
  refine ops_ex rfl (guard_none rfl) rfl rfl (ex_len (d := kRef) (xs := x0) rfl rfl Try.underlying34 hp0) ?_
  refine ops_ex rfl (guard_none rfl) rfl rfl (ex_move rfl rfl) ?_
  refine ops_ex rfl (guard_none rfl) rfl rfl (ex_len (d := kRef) (xs := x1) rfl rfl Try.underlying34 hp1) ?_
  refine ops_ex rfl (guard_none rfl) rfl rfl (ex_neq rfl rfl rfl) ?_
  refine ops_nil ?_
  refine at_then ?_
  refine run_cond (b := ((x0.length : Int) != (x1.length : Int))) rfl (fun hb1460 => ?_) (fun hb1460 => ?_)
  · replace H := cond_t hb1460 H
    refine run_seq ?_
    refine run_region rfl ?_
    refine ops_ex rfl (guard_none rfl) rfl rfl (ex_assign rfl rfl) ?_
    refine ops_nil ?_
    refine at_then ?_
    refine run_ret ?_
    refine at_then_ret ?_
    have hR := Option.some.inj H
    subst hR
    exact at_ret1 rfl rfl ⟨_, rfl, rfl, HM⟩
  · replace H := cond_f hb1460 H
    refine run_skip ?_
    refine at_then ?_
    obtain ⟨o1486, ho1487, H⟩ := bind_some H
    refine run_mid (fun ρ_ w_ => Sum.inr () = o1486 ∧ ρ_ = [] ∧ Mem w [] w_ []) ?_ ?_
    · skip
      refine run_seq ?_
      refine run_region rfl ?_
      refine ops_ex rfl (guard_none rfl) rfl rfl (ex_assign rfl rfl) ?_
      refine ops_nil ?_
      refine at_then ?_
      refine run_block ?_
      refine run_loop (fun k_ ρ_ w_ => ∃ a1496 : Int, laws_eqRefS.l0 x0 x1 k_ a1496 = some o1486 ∧ ρ_ = [(0, p0), (1, p1), (5, .int .i64 a1496)] ∧ Mem w [] w_ []) k (ρ1 := [(0, p0), (1, p1), (5, .int .i64 0)]) ⟨_, ho1487, rfl, HM⟩ (Sub.cons rfl (Sub.cons rfl (Sub.cons rfl Sub.nil))) ?_
      clear HM ho1487
      rintro k1505 _ w1506 ⟨a1496, ho1487, rfl, HM⟩
      obtain _ | k1505 := k1505
      · exact nomatch ((laws_eqRefS.l0_z x0 x1 a1496).symm.trans ho1487)
      replace ho1487 := (laws_eqRefS.l0_s x0 x1 k1505 a1496).symm.trans ho1487
      refine run_seq ?_
      refine run_seq ?_
      refine run_region rfl ?_
      refine ops_ex rfl (guard_none rfl) rfl rfl (ex_move rfl rfl) ?_
      refine ops_ex rfl (guard_none rfl) rfl rfl (ex_move rfl rfl) ?_
      refine ops_ex rfl (guard_none rfl) rfl rfl (ex_len (d := kRef) (xs := x0) rfl rfl Try.underlying34 hp0) ?_
      refine ops_ex rfl (guard_none rfl) rfl rfl (ex_lss rfl rfl rfl) ?_
      refine ops_nil ?_
      refine at_then ?_
      refine run_cond (b := (decide (a1496 < (x0.length : Int)))) rfl (fun hb1507 => ?_) (fun hb1507 => ?_)
      · replace ho1487 := cond_t hb1507 ho1487
        refine run_skip ?_
        refine at_then ?_
        refine run_seq ?_
        refine run_block ?_
        refine run_seq ?_
        obtain ⟨e1508, ho1487⟩ := chk_some ho1487
        obtain ⟨e1510, ho1487⟩ := chk_some ho1487
        obtain ⟨t1512, h1513, ho1487⟩ := bind_some ho1487
        refine run_drawf (fun w_ => Mem w [] w_ []) [(0, true), (1, true), (2, true), (3, true), (4, true), (5, true), (6, true), (7, true), (8, false), (9, true)] mixed rfl rfl (by kernel_rfl) ?_
        replace HM := HM.grow (fr_drew _)
        have hS := Mem.suf (M := []) HM
        refine drwp_take rfl (guard_none rfl) rfl rfl (fun w_ hS_ => (ex_move rfl rfl)) hS ?_
        refine drwp_take rfl (guard_none rfl) rfl rfl (fun w_ hS_ => (ex_move rfl rfl)) hS ?_
        have hc1509 : CellsAt _ (sb p0) (so p0 + (a1496).toNat * 2) [(.int .i64 ((gt x0 a1496).fTx)), (.int .i64 ((gt x0 a1496).fAt))] := rd_plain hp0 e1508
        refine drwp_take rfl (guard_none rfl) rfl rfl (fun w_ hS_ => (ex_indexAddr (d := kRef) rfl rfl rfl Try.underlying34 tsz99 hp0 (idx_lo e1508) (idx_hi e1508))) hS ?_
        refine drwp_take rfl (guard_none rfl) rfl rfl (fun w_ hS_ => (ex_loadN (cs := [(.int .i64 ((gt x0 a1496).fTx)), (.int .i64 ((gt x0 a1496).fAt))]) rfl rfl Try.underlying99 rfl tsz99 rfl ((hS_.at_ hc1509).sub 0 2 rfl))) hS ?_
        refine drwp_take rfl (guard_none rfl) rfl rfl (fun w_ hS_ => (ex_move rfl rfl)) hS ?_
        refine drwp_take rfl (guard_none rfl) rfl rfl (fun w_ hS_ => (ex_move rfl rfl)) hS ?_
        have hc1511 : CellsAt _ (sb p1) (so p1 + (a1496).toNat * 2) [(.int .i64 ((gt x1 a1496).fTx)), (.int .i64 ((gt x1 a1496).fAt))] := rd_plain hp1 e1510
        refine drwp_take rfl (guard_none rfl) rfl rfl (fun w_ hS_ => (ex_indexAddr (d := kRef) rfl rfl rfl Try.underlying34 tsz99 hp1 (idx_lo e1510) (idx_hi e1510))) hS ?_
        refine drwp_take rfl (guard_none rfl) rfl rfl (fun w_ hS_ => (ex_loadN (cs := [(.int .i64 ((gt x1 a1496).fTx)), (.int .i64 ((gt x1 a1496).fAt))]) rfl rfl Try.underlying99 rfl tsz99 rfl ((hS_.at_ hc1511).sub 0 2 rfl))) hS ?_
        refine drwp_one rfl (guard_none rfl) rfl rfl (does_callk rfl callok124 rfl (laws_eqRef.calls (x0 := (gt x0 a1496)) (x1 := (gt x1 a1496)) h1513)) ?_
        rintro _ w1514 ⟨rfl, hn⟩
        replace HM : Mem w [] w1514 [] := HM.call hn
        refine ⟨Mem.suf (M := []) HM, ?_⟩
        have hS := Mem.suf (M := []) HM
        refine drwp_take rfl (guard_none rfl) rfl rfl (fun w_ hS_ => (ex_not rfl rfl)) hS ?_
        refine drwp_done ?_
        refine at_then ?_
        refine run_cond (b := !t1512) rfl (fun hb1515 => ?_) (fun hb1515 => ?_)
        · replace ho1487 := cond_t hb1515 ho1487
          refine run_seq ?_
          refine run_region rfl ?_
          refine ops_ex rfl (guard_none rfl) rfl rfl (ex_assign rfl rfl) ?_
          refine ops_nil ?_
          refine at_then ?_
          refine run_ret ?_
          refine at_block_ret ?_
          refine at_then_ret ?_
          refine at_then_ret ?_
          refine at_block_ret ?_
          refine at_then_ret ?_
          have hR := Option.some.inj ho1487
          subst hR
          have hT := thn_inl H
          have hR := Option.some.inj hT
          subst hR
          exact at_ret1 rfl rfl ⟨_, rfl, rfl, HM⟩
        · replace ho1487 := cond_f hb1515 ho1487
          refine run_skip ?_
          refine at_block ?_
          refine at_then ?_
          refine run_region rfl ?_
          refine ops_ex rfl (guard_none rfl) rfl rfl (ex_move rfl rfl) ?_
          refine ops_ex rfl (guard_none rfl) rfl rfl (ex_add rfl rfl rfl) ?_
          refine ops_ex rfl (guard_none rfl) rfl rfl (ex_assign rfl rfl) ?_
          refine ops_nil ?_
          exact at_again k1505 (ρ1 := [(0, p0), (1, p1), (5, .int .i64 (wrap64 (a1496 + 1)))]) (Nat.lt_succ_self _) ⟨_, ho1487, rfl, HM⟩ (Sub.cons rfl (Sub.cons rfl (Sub.cons rfl Sub.nil)))
      · replace ho1487 := cond_f hb1507 ho1487
        refine run_exit ?_
        refine at_then_exit ?_
        refine at_then_exit ?_
        refine at_block_exit ?_
        exact at_mid (ρ' := []) ⟨(Option.some.inj ho1487), rfl, HM⟩ Sub.nil
    · rintro _ w1516 ⟨rfl, rfl, HM⟩
      replace H := (thn_inr H)
      refine run_seq ?_
      refine run_region rfl ?_
      refine ops_ex rfl (guard_none rfl) rfl rfl (ex_assign rfl rfl) ?_
      refine ops_nil ?_
      refine at_then ?_
      refine run_ret ?_
      have hR := Option.some.inj H
      subst hR
      exact at_ret1 rfl rfl ⟨_, rfl, rfl, HM⟩

def laws_eqInt64S.l0 (x0 : List Int) (x1 : List Int) : Nat → Int → Option (Bool ⊕ Unit)
  | 0, _ => none
  | k + 1, a1600 => (bif (decide (a1600 < (x0.length : Int))) then (chk (idxOk a1600 x0.length) (chk (idxOk a1600 x1.length) (bif ((gt x0 a1600) != (gt x1 a1600)) then some (.inl false) else laws_eqInt64S.l0 x0 x1 k (wrap64 (a1600 + 1))))) else some (.inr ()))
theorem laws_eqInt64S.l0_z (x0 : List Int) (x1 : List Int) (a1600 : Int) : laws_eqInt64S.l0 x0 x1 0 a1600 = none := rfl
theorem laws_eqInt64S.l0_s (x0 : List Int) (x1 : List Int) (k : Nat) (a1600 : Int) : laws_eqInt64S.l0 x0 x1 (k + 1) a1600 = (bif (decide (a1600 < (x0.length : Int))) then (chk (idxOk a1600 x0.length) (chk (idxOk a1600 x1.length) (bif ((gt x0 a1600) != (gt x1 a1600)) then some (.inl false) else laws_eqInt64S.l0 x0 x1 k (wrap64 (a1600 + 1))))) else some (.inr ())) := rfl
def laws_eqInt64S.f (k : Nat) (x0 : List Int) (x1 : List Int) : Option Bool := (bif ((x0.length : Int) != (x1.length : Int)) then some false else ((laws_eqInt64S.l0 x0 x1 k 0).bind fun o1592 => thn o1592 (fun r => some r) (fun _ => some true)))
theorem laws_eqInt64S.calls {k : Nat} {x0 : List Int} {x1 : List Int} {p0 : Value} {p1 : Value} {w : World} (hp0 : RdS kInt w p0 x0) (hp1 : RdS kInt w p1 x1) {r : Bool} (H : laws_eqInt64S.f k x0 x1 = some r) :
    Calls Try.prog 113 ([p0, p1] : List Value).toArray w (fun e w_ => ∃ v, e = .returned v ∧ v = (.bool r) ∧ Mem w [] w_ []) := by
  have HM := Mem.start w
  refine calls_run (N := 26) Try.func113 rfl rfl rfl rfl ?_
  unfold laws_eqInt64S.f at H
  refine run_seq ?_
  refine run_region rfl ?_
  refine ops_ex rfl (guard_none rfl) rfl rfl (ex_assign rfl rfl) ?_
  refine ops_nil ?_
  refine at_then ?_
  refine run_seq ?_
  refine run_seq ?_
  refine run_region rfl ?_
  refine ops_ex rfl (guard_none rfl) rfl rfl (ex_move rfl rfl) ?_
  refine ops_ex rfl (guard_none rfl) rfl rfl (ex_len (d := kInt) (xs := x0) rfl rfl Try.underlying74 hp0) ?_
  refine ops_ex rfl (guard_none rfl) rfl rfl (ex_move rfl rfl) ?_
  refine ops_ex rfl (guard_none rfl) rfl rfl (ex_len (d := kInt) (xs := x1) rfl rfl Try.underlying74 hp1) ?_
  refine ops_ex rfl (guard_none rfl) rfl rfl (ex_neq rfl rfl rfl) ?_
  refine ops_nil ?_
  refine at_then ?_
  refine run_cond (b := ((x0.length : Int) != (x1.length : Int))) rfl (fun hb1572 => ?_) (fun hb1572 => ?_)
  · replace H := cond_t hb1572 H
    refine run_seq ?_
    refine run_region rfl ?_
    refine ops_ex rfl (guard_none rfl) rfl rfl (ex_assign rfl rfl) ?_
    refine ops_nil ?_
    refine at_then ?_
    refine run_ret ?_
    refine at_then_ret ?_
    have hR := Option.some.inj H
    subst hR
    exact at_ret1 rfl rfl ⟨_, rfl, rfl, HM⟩
  · replace H := cond_f hb1572 H
    refine run_skip ?_
    refine at_then ?_
    obtain ⟨o1592, ho1593, H⟩ := bind_some H
    refine run_mid (fun ρ_ w_ => Sum.inr () = o1592 ∧ ρ_ = [] ∧ Mem w [] w_ []) ?_ ?_
    · skip
      refine run_seq ?_
      refine run_region rfl ?_
      refine ops_ex rfl (guard_none rfl) rfl rfl (ex_assign rfl rfl) ?_
      refine ops_nil ?_
      refine at_then ?_
      refine run_block ?_
      refine run_loop (fun k_ ρ_ w_ => ∃ a1600 : Int, laws_eqInt64S.l0 x0 x1 k_ a1600 = some o1592 ∧ ρ_ = [(0, p0), (1, p1), (5, .int .i64 a1600)] ∧ Mem w [] w_ []) k (ρ1 := [(0, p0), (1, p1), (5, .int .i64 0)]) ⟨_, ho1593, rfl, HM⟩ (Sub.cons rfl (Sub.cons rfl (Sub.cons rfl Sub.nil))) ?_
      clear HM ho1593
      rintro k1607 _ w1608 ⟨a1600, ho1593, rfl, HM⟩
      obtain _ | k1607 := k1607
      · exact nomatch ((laws_eqInt64S.l0_z x0 x1 a1600).symm.trans ho1593)
      replace ho1593 := (laws_eqInt64S.l0_s x0 x1 k1607 a1600).symm.trans ho1593
      refine run_seq ?_
      refine run_seq ?_
      refine run_region rfl ?_
      refine ops_ex rfl (guard_none rfl) rfl rfl (ex_move rfl rfl) ?_
      refine ops_ex rfl (guard_none rfl) rfl rfl (ex_move rfl rfl) ?_
      refine ops_ex rfl (guard_none rfl) rfl rfl (ex_len (d := kInt) (xs := x0) rfl rfl Try.underlying74 hp0) ?_
      refine ops_ex rfl (guard_none rfl) rfl rfl (ex_lss rfl rfl rfl) ?_
      refine ops_nil ?_
      refine at_then ?_
      refine run_cond (b := (decide (a1600 < (x0.length : Int)))) rfl (fun hb1609 => ?_) (fun hb1609 => ?_)
      · replace ho1593 := cond_t hb1609 ho1593
        refine run_skip ?_
        refine at_then ?_
        refine run_seq ?_
        refine run_block ?_
        refine run_seq ?_
        obtain ⟨e1610, ho1593⟩ := chk_some ho1593
        obtain ⟨e1612, ho1593⟩ := chk_some ho1593
        refine run_drawf (fun w_ => Mem w [] w_ []) [(0, true), (1, true), (2, true), (3, true), (4, true), (5, true), (6, true), (7, true), (8, true)] mixed rfl rfl (by kernel_rfl) ?_
        replace HM := HM.grow (fr_drew _)
        have hS := Mem.suf (M := []) HM
        refine drwp_take rfl (guard_none rfl) rfl rfl (fun w_ hS_ => (ex_move rfl rfl)) hS ?_
        refine drwp_take rfl (guard_none rfl) rfl rfl (fun w_ hS_ => (ex_move rfl rfl)) hS ?_
        have hc1611 : CellsAt _ (sb p0) (so p0 + (a1600).toNat * 1) [(.int .i64 (gt x0 a1600))] := rd_plain hp0 e1610
        refine drwp_take rfl (guard_none rfl) rfl rfl (fun w_ hS_ => (ex_indexAddr (d := kInt) rfl rfl rfl Try.underlying74 tsz2 hp0 (idx_lo e1610) (idx_hi e1610))) hS ?_
        refine drwp_take rfl (guard_none rfl) rfl rfl (fun w_ hS_ => (ex_load1 rfl rfl Try.underlying2 rfl ((hS_.at_ hc1611) 0 _ rfl))) hS ?_
        refine drwp_take rfl (guard_none rfl) rfl rfl (fun w_ hS_ => (ex_move rfl rfl)) hS ?_
        refine drwp_take rfl (guard_none rfl) rfl rfl (fun w_ hS_ => (ex_move rfl rfl)) hS ?_
        have hc1613 : CellsAt _ (sb p1) (so p1 + (a1600).toNat * 1) [(.int .i64 (gt x1 a1600))] := rd_plain hp1 e1612
        refine drwp_take rfl (guard_none rfl) rfl rfl (fun w_ hS_ => (ex_indexAddr (d := kInt) rfl rfl rfl Try.underlying74 tsz2 hp1 (idx_lo e1612) (idx_hi e1612))) hS ?_
        refine drwp_take rfl (guard_none rfl) rfl rfl (fun w_ hS_ => (ex_load1 rfl rfl Try.underlying2 rfl ((hS_.at_ hc1613) 0 _ rfl))) hS ?_
        refine drwp_take rfl (guard_none rfl) rfl rfl (fun w_ hS_ => (ex_neq rfl rfl rfl)) hS ?_
        refine drwp_done ?_
        refine at_then ?_
        refine run_cond (b := ((gt x0 a1600) != (gt x1 a1600))) rfl (fun hb1614 => ?_) (fun hb1614 => ?_)
        · replace ho1593 := cond_t hb1614 ho1593
          refine run_seq ?_
          refine run_region rfl ?_
          refine ops_ex rfl (guard_none rfl) rfl rfl (ex_assign rfl rfl) ?_
          refine ops_nil ?_
          refine at_then ?_
          refine run_ret ?_
          refine at_block_ret ?_
          refine at_then_ret ?_
          refine at_then_ret ?_
          refine at_block_ret ?_
          refine at_then_ret ?_
          have hR := Option.some.inj ho1593
          subst hR
          have hT := thn_inl H
          have hR := Option.some.inj hT
          subst hR
          exact at_ret1 rfl rfl ⟨_, rfl, rfl, HM⟩
        · replace ho1593 := cond_f hb1614 ho1593
          refine run_skip ?_
          refine at_block ?_
          refine at_then ?_
          refine run_region rfl ?_
          refine ops_ex rfl (guard_none rfl) rfl rfl (ex_move rfl rfl) ?_
          refine ops_ex rfl (guard_none rfl) rfl rfl (ex_add rfl rfl rfl) ?_
          refine ops_ex rfl (guard_none rfl) rfl rfl (ex_assign rfl rfl) ?_
          refine ops_nil ?_
          exact at_again k1607 (ρ1 := [(0, p0), (1, p1), (5, .int .i64 (wrap64 (a1600 + 1)))]) (Nat.lt_succ_self _) ⟨_, ho1593, rfl, HM⟩ (Sub.cons rfl (Sub.cons rfl (Sub.cons rfl Sub.nil)))
      · replace ho1593 := cond_f hb1609 ho1593
        refine run_exit ?_
        refine at_then_exit ?_
        refine at_then_exit ?_
        refine at_block_exit ?_
        exact at_mid (ρ' := []) ⟨(Option.some.inj ho1593), rfl, HM⟩ Sub.nil
    · rintro _ w1615 ⟨rfl, rfl, HM⟩
      replace H := (thn_inr H)
      refine run_seq ?_
      refine run_region rfl ?_
      refine ops_ex rfl (guard_none rfl) rfl rfl (ex_assign rfl rfl) ?_
      refine ops_nil ?_
      refine at_then ?_
      refine run_ret ?_
      have hR := Option.some.inj H
      subst hR
      exact at_ret1 rfl rfl ⟨_, rfl, rfl, HM⟩

def laws_eqRule.f (k : Nat) (x0 : Rule) (x1 : Rule) : Option Bool := ((laws_eqInt64S.f k x0.fKeys x1.fKeys).bind fun t1636 => (bif !t1636 then some false else (bif (x0.fNeed != x1.fNeed) then some false else (bif (x0.fAfter != x1.fAfter) then some false else some true))))
theorem laws_eqRule.calls {k : Nat} {x0 : Rule} {x1 : Rule} {p0_0 : Value} {p1_0 : Value} {w : World} (hp0_0 : RdS kInt w p0_0 x0.fKeys) (hp1_0 : RdS kInt w p1_0 x1.fKeys) {r : Bool} (H : laws_eqRule.f k x0 x1 = some r) :
    Calls Try.prog 159 ([.agg #[p0_0, (.int .i64 x0.fNeed), (.int .i64 x0.fAfter)], .agg #[p1_0, (.int .i64 x1.fNeed), (.int .i64 x1.fAfter)]] : List Value).toArray w (fun e w_ => ∃ v, e = .returned v ∧ v = (.bool r) ∧ Mem w [] w_ []) := by
  have HM := Mem.start w
  refine calls_run (N := 21) Try.func159 rfl rfl rfl rfl ?_
  unfold laws_eqRule.f at H
  refine run_seq ?_
  refine run_region rfl ?_
  refine ops_does rfl (guard_none rfl) rfl rfl (does_box (cs := [p0_0, .int .i64 x0.fNeed, .int .i64 x0.fAfter]) rfl rfl rfl HM) ?_
  rintro _ w1631 ⟨b1625, rfl, HM⟩
  refine ops_does rfl (guard_none rfl) rfl rfl (does_box (cs := [p1_0, .int .i64 x1.fNeed, .int .i64 x1.fAfter]) rfl rfl rfl HM) ?_
  rintro _ w1632 ⟨b1628, rfl, HM⟩
  refine ops_ex rfl (guard_none rfl) rfl rfl (ex_assign rfl rfl) ?_
  refine ops_nil ?_
  refine at_then ?_
  refine run_seq ?_
  refine run_seq ?_
  obtain ⟨t1636, h1637, H⟩ := bind_some H
  refine run_region rfl ?_
  refine ops_ex rfl (guard_none rfl) rfl rfl (ex_fieldAddr (off' := 0) rfl rfl Try.underlying100 rfl tsz74 rfl) ?_
  refine ops_ex rfl (guard_none rfl) rfl rfl (ex_load1 rfl rfl Try.underlying74 rfl ((HM.box_at 1 rfl) 0 _ rfl)) ?_
  refine ops_ex rfl (guard_none rfl) rfl rfl (ex_fieldAddr (off' := 0) rfl rfl Try.underlying100 rfl tsz74 rfl) ?_
  refine ops_ex rfl (guard_none rfl) rfl rfl (ex_load1 rfl rfl Try.underlying74 rfl ((HM.box_at 0 rfl) 0 _ rfl)) ?_
  refine ops_does rfl (guard_none rfl) rfl rfl (does_callk rfl callok113 rfl (laws_eqInt64S.calls (x0 := x0.fKeys) (x1 := x1.fKeys) (HM.rd hp0_0) (HM.rd hp1_0) h1637)) ?_
  rintro _ w1638 ⟨rfl, hn⟩
  replace HM : Mem w [] w1638 [box b1628 100 [p1_0, .int .i64 x1.fNeed, .int .i64 x1.fAfter], box b1625 100 [p0_0, .int .i64 x0.fNeed, .int .i64 x0.fAfter]] := HM.call hn
  refine ops_ex rfl (guard_none rfl) rfl rfl (ex_not rfl rfl) ?_
  refine ops_nil ?_
  refine at_then ?_
  refine run_cond (b := !t1636) rfl (fun hb1639 => ?_) (fun hb1639 => ?_)
  · replace H := cond_t hb1639 H
    refine run_seq ?_
    refine run_region rfl ?_
    refine ops_ex rfl (guard_none rfl) rfl rfl (ex_assign rfl rfl) ?_
    refine ops_nil ?_
    refine at_then ?_
    refine run_ret ?_
    refine at_then_ret ?_
    replace HM := (HM.front 0 rfl rfl).drop
    replace HM := (HM.front 0 rfl rfl).drop
    have hR := Option.some.inj H
    subst hR
    exact at_ret1 rfl rfl ⟨_, rfl, rfl, HM⟩
  · replace H := cond_f hb1639 H
    refine run_skip ?_
    refine at_then ?_
    refine run_seq ?_
    refine run_seq ?_
    refine run_region rfl ?_
    refine ops_ex rfl (guard_none rfl) rfl rfl (ex_fieldAddr (off' := 1) rfl rfl Try.underlying100 rfl tsz2 rfl) ?_
    refine ops_ex rfl (guard_none rfl) rfl rfl (ex_load1 rfl rfl Try.underlying2 rfl ((HM.box_at 1 rfl) 1 _ rfl)) ?_
    refine ops_ex rfl (guard_none rfl) rfl rfl (ex_fieldAddr (off' := 1) rfl rfl Try.underlying100 rfl tsz2 rfl) ?_
    refine ops_ex rfl (guard_none rfl) rfl rfl (ex_load1 rfl rfl Try.underlying2 rfl ((HM.box_at 0 rfl) 1 _ rfl)) ?_
    refine ops_ex rfl (guard_none rfl) rfl rfl (ex_neq rfl rfl rfl) ?_
    refine ops_nil ?_
    refine at_then ?_
    refine run_cond (b := (x0.fNeed != x1.fNeed)) rfl (fun hb1641 => ?_) (fun hb1641 => ?_)
    · replace H := cond_t hb1641 H
      refine run_seq ?_
      refine run_region rfl ?_
      refine ops_ex rfl (guard_none rfl) rfl rfl (ex_assign rfl rfl) ?_
      refine ops_nil ?_
      refine at_then ?_
      refine run_ret ?_
      refine at_then_ret ?_
      replace HM := (HM.front 0 rfl rfl).drop
      replace HM := (HM.front 0 rfl rfl).drop
      have hR := Option.some.inj H
      subst hR
      exact at_ret1 rfl rfl ⟨_, rfl, rfl, HM⟩
    · replace H := cond_f hb1641 H
      refine run_skip ?_
      refine at_then ?_
      refine run_seq ?_
      refine run_seq ?_
      refine run_region rfl ?_
      refine ops_ex rfl (guard_none rfl) rfl rfl (ex_fieldAddr (off' := 2) rfl rfl Try.underlying100 rfl tsz2 rfl) ?_
      refine ops_ex rfl (guard_none rfl) rfl rfl (ex_load1 rfl rfl Try.underlying2 rfl ((HM.box_at 1 rfl) 2 _ rfl)) ?_
      refine ops_ex rfl (guard_none rfl) rfl rfl (ex_fieldAddr (off' := 2) rfl rfl Try.underlying100 rfl tsz2 rfl) ?_
      refine ops_ex rfl (guard_none rfl) rfl rfl (ex_load1 rfl rfl Try.underlying2 rfl ((HM.box_at 0 rfl) 2 _ rfl)) ?_
      refine ops_ex rfl (guard_none rfl) rfl rfl (ex_neq rfl rfl rfl) ?_
      refine ops_nil ?_
      refine at_then ?_
      refine run_cond (b := (x0.fAfter != x1.fAfter)) rfl (fun hb1642 => ?_) (fun hb1642 => ?_)
      · replace H := cond_t hb1642 H
        refine run_seq ?_
        refine run_region rfl ?_
        refine ops_ex rfl (guard_none rfl) rfl rfl (ex_assign rfl rfl) ?_
        refine ops_nil ?_
        refine at_then ?_
        refine run_ret ?_
        refine at_then_ret ?_
        replace HM := (HM.front 0 rfl rfl).drop
        replace HM := (HM.front 0 rfl rfl).drop
        have hR := Option.some.inj H
        subst hR
        exact at_ret1 rfl rfl ⟨_, rfl, rfl, HM⟩
      · replace H := cond_f hb1642 H
        refine run_skip ?_
        refine at_then ?_
        refine run_seq ?_
        refine run_region rfl ?_
        refine ops_ex rfl (guard_none rfl) rfl rfl (ex_assign rfl rfl) ?_
        refine ops_nil ?_
        refine at_then ?_
        refine run_ret ?_
        replace HM := (HM.front 0 rfl rfl).drop
        replace HM := (HM.front 0 rfl rfl).drop
        have hR := Option.some.inj H
        subst hR
        exact at_ret1 rfl rfl ⟨_, rfl, rfl, HM⟩

def laws_eqOut.f (k : Nat) (x0 : Out) (x1 : Out) : Option Bool := (bif (x0.fValue != x1.fValue) then some false else ((laws_eqRule.f k x0.fRule x1.fRule).bind fun t1656 => (bif !t1656 then some false else some true)))
theorem laws_eqOut.calls {k : Nat} {x0 : Out} {x1 : Out} {p0_0 : Value} {p1_0 : Value} {w : World} (hp0_0 : RdS kInt w p0_0 x0.fRule.fKeys) (hp1_0 : RdS kInt w p1_0 x1.fRule.fKeys) {r : Bool} (H : laws_eqOut.f k x0 x1 = some r) :
    Calls Try.prog 125 ([.agg #[(.int .i64 x0.fValue), p0_0, (.int .i64 x0.fRule.fNeed), (.int .i64 x0.fRule.fAfter)], .agg #[(.int .i64 x1.fValue), p1_0, (.int .i64 x1.fRule.fNeed), (.int .i64 x1.fRule.fAfter)]] : List Value).toArray w (fun e w_ => ∃ v, e = .returned v ∧ v = (.bool r) ∧ Mem w [] w_ []) := by
  have HM := Mem.start w
  refine calls_run (N := 16) Try.func125 rfl rfl rfl rfl ?_
  unfold laws_eqOut.f at H
  refine run_seq ?_
  refine run_region rfl ?_
  refine ops_does rfl (guard_none rfl) rfl rfl (does_box (cs := [.int .i64 x0.fValue, p0_0, .int .i64 x0.fRule.fNeed, .int .i64 x0.fRule.fAfter]) rfl rfl rfl HM) ?_
  rintro _ w1652 ⟨b1646, rfl, HM⟩
  refine ops_does rfl (guard_none rfl) rfl rfl (does_box (cs := [.int .i64 x1.fValue, p1_0, .int .i64 x1.fRule.fNeed, .int .i64 x1.fRule.fAfter]) rfl rfl rfl HM) ?_
  rintro _ w1653 ⟨b1649, rfl, HM⟩
  refine ops_ex rfl (guard_none rfl) rfl rfl (ex_assign rfl rfl) ?_
  refine ops_nil ?_
  refine at_then ?_
  refine run_seq ?_
  refine run_seq ?_
  refine run_region rfl ?_
  refine ops_ex rfl (guard_none rfl) rfl rfl (ex_fieldAddr (off' := 0) rfl rfl Try.underlying102 rfl tsz2 rfl) ?_
  refine ops_ex rfl (guard_none rfl) rfl rfl (ex_load1 rfl rfl Try.underlying2 rfl ((HM.box_at 1 rfl) 0 _ rfl)) ?_
  refine ops_ex rfl (guard_none rfl) rfl rfl (ex_fieldAddr (off' := 0) rfl rfl Try.underlying102 rfl tsz2 rfl) ?_
  refine ops_ex rfl (guard_none rfl) rfl rfl (ex_load1 rfl rfl Try.underlying2 rfl ((HM.box_at 0 rfl) 0 _ rfl)) ?_
  refine ops_ex rfl (guard_none rfl) rfl rfl (ex_neq rfl rfl rfl) ?_
  refine ops_nil ?_
  refine at_then ?_
  refine run_cond (b := (x0.fValue != x1.fValue)) rfl (fun hb1655 => ?_) (fun hb1655 => ?_)
  · replace H := cond_t hb1655 H
    refine run_seq ?_
    refine run_region rfl ?_
    refine ops_ex rfl (guard_none rfl) rfl rfl (ex_assign rfl rfl) ?_
    refine ops_nil ?_
    refine at_then ?_
    refine run_ret ?_
    refine at_then_ret ?_
    replace HM := (HM.front 0 rfl rfl).drop
    replace HM := (HM.front 0 rfl rfl).drop
    have hR := Option.some.inj H
    subst hR
    exact at_ret1 rfl rfl ⟨_, rfl, rfl, HM⟩
  · replace H := cond_f hb1655 H
    refine run_skip ?_
    refine at_then ?_
    refine run_seq ?_
    refine run_seq ?_
    obtain ⟨t1656, h1657, H⟩ := bind_some H
    refine run_region rfl ?_
    refine ops_ex rfl (guard_none rfl) rfl rfl (ex_fieldAddr (off' := 1) rfl rfl Try.underlying102 rfl tsz100 rfl) ?_
    refine ops_ex rfl (guard_none rfl) rfl rfl (ex_loadN (cs := [p0_0, (.int .i64 x0.fRule.fNeed), (.int .i64 x0.fRule.fAfter)]) rfl rfl Try.underlying100 rfl tsz100 rfl ((HM.box_at 1 rfl).sub 1 3 rfl)) ?_
    refine ops_ex rfl (guard_none rfl) rfl rfl (ex_fieldAddr (off' := 1) rfl rfl Try.underlying102 rfl tsz100 rfl) ?_
    refine ops_ex rfl (guard_none rfl) rfl rfl (ex_loadN (cs := [p1_0, (.int .i64 x1.fRule.fNeed), (.int .i64 x1.fRule.fAfter)]) rfl rfl Try.underlying100 rfl tsz100 rfl ((HM.box_at 0 rfl).sub 1 3 rfl)) ?_
    refine ops_does rfl (guard_none rfl) rfl rfl (does_callk rfl callok159 rfl (laws_eqRule.calls (x0 := x0.fRule) (x1 := x1.fRule) (HM.rd hp0_0) (HM.rd hp1_0) h1657)) ?_
    rintro _ w1658 ⟨rfl, hn⟩
    replace HM : Mem w [] w1658 [box b1649 102 [.int .i64 x1.fValue, p1_0, .int .i64 x1.fRule.fNeed, .int .i64 x1.fRule.fAfter], box b1646 102 [.int .i64 x0.fValue, p0_0, .int .i64 x0.fRule.fNeed, .int .i64 x0.fRule.fAfter]] := HM.call hn
    refine ops_ex rfl (guard_none rfl) rfl rfl (ex_not rfl rfl) ?_
    refine ops_nil ?_
    refine at_then ?_
    refine run_cond (b := !t1656) rfl (fun hb1659 => ?_) (fun hb1659 => ?_)
    · replace H := cond_t hb1659 H
      refine run_seq ?_
      refine run_region rfl ?_
      refine ops_ex rfl (guard_none rfl) rfl rfl (ex_assign rfl rfl) ?_
      refine ops_nil ?_
      refine at_then ?_
      refine run_ret ?_
      refine at_then_ret ?_
      replace HM := (HM.front 0 rfl rfl).drop
      replace HM := (HM.front 0 rfl rfl).drop
      have hR := Option.some.inj H
      subst hR
      exact at_ret1 rfl rfl ⟨_, rfl, rfl, HM⟩
    · replace H := cond_f hb1659 H
      refine run_skip ?_
      refine at_then ?_
      refine run_seq ?_
      refine run_region rfl ?_
      refine ops_ex rfl (guard_none rfl) rfl rfl (ex_assign rfl rfl) ?_
      refine ops_nil ?_
      refine at_then ?_
      refine run_ret ?_
      replace HM := (HM.front 0 rfl rfl).drop
      replace HM := (HM.front 0 rfl rfl).drop
      have hR := Option.some.inj H
      subst hR
      exact at_ret1 rfl rfl ⟨_, rfl, rfl, HM⟩

def laws_eqOutS.l0 (x0 : List Out) (x1 : List Out) : Nat → Int → Option (Bool ⊕ Unit)
  | 0, _ => none
  | k + 1, a1743 => (bif (decide (a1743 < (x0.length : Int))) then (chk (idxOk a1743 x0.length) (chk (idxOk a1743 x1.length) ((laws_eqOut.f k (gt x0 a1743) (gt x1 a1743)).bind fun t1767 => (bif !t1767 then some (.inl false) else laws_eqOutS.l0 x0 x1 k (wrap64 (a1743 + 1)))))) else some (.inr ()))
theorem laws_eqOutS.l0_z (x0 : List Out) (x1 : List Out) (a1743 : Int) : laws_eqOutS.l0 x0 x1 0 a1743 = none := rfl
theorem laws_eqOutS.l0_s (x0 : List Out) (x1 : List Out) (k : Nat) (a1743 : Int) : laws_eqOutS.l0 x0 x1 (k + 1) a1743 = (bif (decide (a1743 < (x0.length : Int))) then (chk (idxOk a1743 x0.length) (chk (idxOk a1743 x1.length) ((laws_eqOut.f k (gt x0 a1743) (gt x1 a1743)).bind fun t1767 => (bif !t1767 then some (.inl false) else laws_eqOutS.l0 x0 x1 k (wrap64 (a1743 + 1)))))) else some (.inr ())) := rfl
def laws_eqOutS.f (k : Nat) (x0 : List Out) (x1 : List Out) : Option Bool := (bif ((x0.length : Int) != (x1.length : Int)) then some false else ((laws_eqOutS.l0 x0 x1 k 0).bind fun o1729 => thn o1729 (fun r => some r) (fun _ => some true)))
theorem laws_eqOutS.calls {k : Nat} {x0 : List Out} {x1 : List Out} {p0 : Value} {p1 : Value} {w : World} (hp0 : RdS kOut w p0 x0) (hp1 : RdS kOut w p1 x1) {r : Bool} (H : laws_eqOutS.f k x0 x1 = some r) :
    Calls Try.prog 77 ([p0, p1] : List Value).toArray w (fun e w_ => ∃ v, e = .returned v ∧ v = (.bool r) ∧ Mem w [] w_ []) := by
  have HM := Mem.start w
  refine calls_run (N := 27) Try.func77 rfl rfl rfl rfl ?_
  unfold laws_eqOutS.f at H
  refine run_seq ?_
  refine run_region rfl ?_
  refine ops_ex rfl (guard_none rfl) rfl rfl (ex_assign rfl rfl) ?_
  refine ops_nil ?_
  refine at_then ?_
  refine run_seq ?_
  refine run_seq ?_
  refine run_region rfl ?_
  refine ops_ex rfl (guard_none rfl) rfl rfl (ex_move rfl rfl) ?_
  refine ops_ex rfl (guard_none rfl) rfl rfl (ex_len (d := kOut) (xs := x0) rfl rfl Try.underlying35 hp0) ?_
  refine ops_ex rfl (guard_none rfl) rfl rfl (ex_move rfl rfl) ?_
  refine ops_ex rfl (guard_none rfl) rfl rfl (ex_len (d := kOut) (xs := x1) rfl rfl Try.underlying35 hp1) ?_
  refine ops_ex rfl (guard_none rfl) rfl rfl (ex_neq rfl rfl rfl) ?_
  refine ops_nil ?_
  refine at_then ?_
  refine run_cond (b := ((x0.length : Int) != (x1.length : Int))) rfl (fun hb1691 => ?_) (fun hb1691 => ?_)
  · replace H := cond_t hb1691 H
    refine run_seq ?_
    refine run_region rfl ?_
    refine ops_ex rfl (guard_none rfl) rfl rfl (ex_assign rfl rfl) ?_
    refine ops_nil ?_
    refine at_then ?_
    refine run_ret ?_
    refine at_then_ret ?_
    have hR := Option.some.inj H
    subst hR
    exact at_ret1 rfl rfl ⟨_, rfl, rfl, HM⟩
  · replace H := cond_f hb1691 H
    refine run_skip ?_
    refine at_then ?_
    obtain ⟨o1729, ho1730, H⟩ := bind_some H
    refine run_mid (fun ρ_ w_ => Sum.inr () = o1729 ∧ ρ_ = [] ∧ Mem w [] w_ []) ?_ ?_
    · skip
      refine run_seq ?_
      refine run_region rfl ?_
      refine ops_ex rfl (guard_none rfl) rfl rfl (ex_assign rfl rfl) ?_
      refine ops_nil ?_
      refine at_then ?_
      refine run_block ?_
      refine run_loop (fun k_ ρ_ w_ => ∃ a1743 : Int, laws_eqOutS.l0 x0 x1 k_ a1743 = some o1729 ∧ ρ_ = [(0, p0), (1, p1), (5, .int .i64 a1743)] ∧ Mem w [] w_ []) k (ρ1 := [(0, p0), (1, p1), (5, .int .i64 0)]) ⟨_, ho1730, rfl, HM⟩ (Sub.cons rfl (Sub.cons rfl (Sub.cons rfl Sub.nil))) ?_
      clear HM ho1730
      rintro k1756 _ w1757 ⟨a1743, ho1730, rfl, HM⟩
      obtain _ | k1756 := k1756
      · exact nomatch ((laws_eqOutS.l0_z x0 x1 a1743).symm.trans ho1730)
      replace ho1730 := (laws_eqOutS.l0_s x0 x1 k1756 a1743).symm.trans ho1730
      refine run_seq ?_
      refine run_seq ?_
      refine run_region rfl ?_
      refine ops_ex rfl (guard_none rfl) rfl rfl (ex_move rfl rfl) ?_
      refine ops_ex rfl (guard_none rfl) rfl rfl (ex_move rfl rfl) ?_
      refine ops_ex rfl (guard_none rfl) rfl rfl (ex_len (d := kOut) (xs := x0) rfl rfl Try.underlying35 hp0) ?_
      refine ops_ex rfl (guard_none rfl) rfl rfl (ex_lss rfl rfl rfl) ?_
      refine ops_nil ?_
      refine at_then ?_
      refine run_cond (b := (decide (a1743 < (x0.length : Int)))) rfl (fun hb1758 => ?_) (fun hb1758 => ?_)
      · replace ho1730 := cond_t hb1758 ho1730
        refine run_skip ?_
        refine at_then ?_
        refine run_seq ?_
        refine run_block ?_
        refine run_seq ?_
        obtain ⟨e1759, ho1730⟩ := chk_some ho1730
        obtain ⟨e1763, ho1730⟩ := chk_some ho1730
        obtain ⟨t1767, h1768, ho1730⟩ := bind_some ho1730
        refine run_drawf (fun w_ => Mem w [] w_ []) [(0, true), (1, true), (2, true), (3, true), (4, true), (5, true), (6, true), (7, true), (8, false), (9, true)] mixed rfl rfl (by kernel_rfl) ?_
        replace HM := HM.grow (fr_drew _)
        have hS := Mem.suf (M := []) HM
        refine drwp_take rfl (guard_none rfl) rfl rfl (fun w_ hS_ => (ex_move rfl rfl)) hS ?_
        refine drwp_take rfl (guard_none rfl) rfl rfl (fun w_ hS_ => (ex_move rfl rfl)) hS ?_
        obtain ⟨kv1761, hc1760, hk1762⟩ : ∃ u, CellsAt _ (sb p0) (so p0 + (a1743).toNat * 4) [(.int .i64 ((gt x0 a1743).fValue)), u, (.int .i64 ((gt x0 a1743).fRule.fNeed)), (.int .i64 ((gt x0 a1743).fRule.fAfter))] ∧ RdS kInt _ u ((gt x0 a1743).fRule.fKeys) := rd_with1 hp0 e1759
        refine drwp_take rfl (guard_none rfl) rfl rfl (fun w_ hS_ => (ex_indexAddr (d := kOut) rfl rfl rfl Try.underlying35 tsz102 hp0 (idx_lo e1759) (idx_hi e1759))) hS ?_
        refine drwp_take rfl (guard_none rfl) rfl rfl (fun w_ hS_ => (ex_loadN (cs := [(.int .i64 ((gt x0 a1743).fValue)), kv1761, (.int .i64 ((gt x0 a1743).fRule.fNeed)), (.int .i64 ((gt x0 a1743).fRule.fAfter))]) rfl rfl Try.underlying102 rfl tsz102 rfl ((hS_.at_ hc1760).sub 0 4 rfl))) hS ?_
        refine drwp_take rfl (guard_none rfl) rfl rfl (fun w_ hS_ => (ex_move rfl rfl)) hS ?_
        refine drwp_take rfl (guard_none rfl) rfl rfl (fun w_ hS_ => (ex_move rfl rfl)) hS ?_
        obtain ⟨kv1765, hc1764, hk1766⟩ : ∃ u, CellsAt _ (sb p1) (so p1 + (a1743).toNat * 4) [(.int .i64 ((gt x1 a1743).fValue)), u, (.int .i64 ((gt x1 a1743).fRule.fNeed)), (.int .i64 ((gt x1 a1743).fRule.fAfter))] ∧ RdS kInt _ u ((gt x1 a1743).fRule.fKeys) := rd_with1 hp1 e1763
        refine drwp_take rfl (guard_none rfl) rfl rfl (fun w_ hS_ => (ex_indexAddr (d := kOut) rfl rfl rfl Try.underlying35 tsz102 hp1 (idx_lo e1763) (idx_hi e1763))) hS ?_
        refine drwp_take rfl (guard_none rfl) rfl rfl (fun w_ hS_ => (ex_loadN (cs := [(.int .i64 ((gt x1 a1743).fValue)), kv1765, (.int .i64 ((gt x1 a1743).fRule.fNeed)), (.int .i64 ((gt x1 a1743).fRule.fAfter))]) rfl rfl Try.underlying102 rfl tsz102 rfl ((hS_.at_ hc1764).sub 0 4 rfl))) hS ?_
        refine drwp_one rfl (guard_none rfl) rfl rfl (does_callk rfl callok125 rfl (laws_eqOut.calls (x0 := (gt x0 a1743)) (x1 := (gt x1 a1743)) (HM.rd hk1762) (HM.rd hk1766) h1768)) ?_
        rintro _ w1769 ⟨rfl, hn⟩
        replace HM : Mem w [] w1769 [] := HM.call hn
        refine ⟨Mem.suf (M := []) HM, ?_⟩
        have hS := Mem.suf (M := []) HM
        refine drwp_take rfl (guard_none rfl) rfl rfl (fun w_ hS_ => (ex_not rfl rfl)) hS ?_
        refine drwp_done ?_
        refine at_then ?_
        refine run_cond (b := !t1767) rfl (fun hb1770 => ?_) (fun hb1770 => ?_)
        · replace ho1730 := cond_t hb1770 ho1730
          refine run_seq ?_
          refine run_region rfl ?_
          refine ops_ex rfl (guard_none rfl) rfl rfl (ex_assign rfl rfl) ?_
          refine ops_nil ?_
          refine at_then ?_
          refine run_ret ?_
          refine at_block_ret ?_
          refine at_then_ret ?_
          refine at_then_ret ?_
          refine at_block_ret ?_
          refine at_then_ret ?_
          have hR := Option.some.inj ho1730
          subst hR
          have hT := thn_inl H
          have hR := Option.some.inj hT
          subst hR
          exact at_ret1 rfl rfl ⟨_, rfl, rfl, HM⟩
        · replace ho1730 := cond_f hb1770 ho1730
          refine run_skip ?_
          refine at_block ?_
          refine at_then ?_
          refine run_region rfl ?_
          refine ops_ex rfl (guard_none rfl) rfl rfl (ex_move rfl rfl) ?_
          refine ops_ex rfl (guard_none rfl) rfl rfl (ex_add rfl rfl rfl) ?_
          refine ops_ex rfl (guard_none rfl) rfl rfl (ex_assign rfl rfl) ?_
          refine ops_nil ?_
          exact at_again k1756 (ρ1 := [(0, p0), (1, p1), (5, .int .i64 (wrap64 (a1743 + 1)))]) (Nat.lt_succ_self _) ⟨_, ho1730, rfl, HM⟩ (Sub.cons rfl (Sub.cons rfl (Sub.cons rfl Sub.nil)))
      · replace ho1730 := cond_f hb1758 ho1730
        refine run_exit ?_
        refine at_then_exit ?_
        refine at_then_exit ?_
        refine at_block_exit ?_
        exact at_mid (ρ' := []) ⟨(Option.some.inj ho1730), rfl, HM⟩ Sub.nil
    · rintro _ w1771 ⟨rfl, rfl, HM⟩
      replace H := (thn_inr H)
      refine run_seq ?_
      refine run_region rfl ?_
      refine ops_ex rfl (guard_none rfl) rfl rfl (ex_assign rfl rfl) ?_
      refine ops_nil ?_
      refine at_then ?_
      refine run_ret ?_
      have hR := Option.some.inj H
      subst hR
      exact at_ret1 rfl rfl ⟨_, rfl, rfl, HM⟩

def laws_eqTx.f (k : Nat) (x0 : Tx) (x1 : Tx) : Option Bool := (bif (x0.fKind != x1.fKind) then some false else (bif (x0.fMember != x1.fMember) then some false else ((laws_eqRefS.f k x0.fIns x1.fIns).bind fun t1790 => (bif !t1790 then some false else ((laws_eqOutS.f k x0.fOuts x1.fOuts).bind fun t1794 => (bif !t1794 then some false else some true))))))
theorem laws_eqTx.calls {k : Nat} {x0 : Tx} {x1 : Tx} {p0_0 : Value} {p0_1 : Value} {p1_0 : Value} {p1_1 : Value} {w : World} (hp0_0 : RdS kRef w p0_0 x0.fIns) (hp0_1 : RdS kOut w p0_1 x0.fOuts) (hp1_0 : RdS kRef w p1_0 x1.fIns) (hp1_1 : RdS kOut w p1_1 x1.fOuts) {r : Bool} (H : laws_eqTx.f k x0 x1 = some r) :
    Calls Try.prog 24 ([.agg #[(.int .i64 x0.fKind), (.int .i64 x0.fMember), p0_0, p0_1], .agg #[(.int .i64 x1.fKind), (.int .i64 x1.fMember), p1_0, p1_1]] : List Value).toArray w (fun e w_ => ∃ v, e = .returned v ∧ v = (.bool r) ∧ Mem w [] w_ []) := by
  have HM := Mem.start w
  refine calls_run (N := 27) Try.func24 rfl rfl rfl rfl ?_
  unfold laws_eqTx.f at H
  refine run_seq ?_
  refine run_region rfl ?_
  refine ops_does rfl (guard_none rfl) rfl rfl (does_box (cs := [.int .i64 x0.fKind, .int .i64 x0.fMember, p0_0, p0_1]) rfl rfl rfl HM) ?_
  rintro _ w1781 ⟨b1775, rfl, HM⟩
  refine ops_does rfl (guard_none rfl) rfl rfl (does_box (cs := [.int .i64 x1.fKind, .int .i64 x1.fMember, p1_0, p1_1]) rfl rfl rfl HM) ?_
  rintro _ w1782 ⟨b1778, rfl, HM⟩
  refine ops_ex rfl (guard_none rfl) rfl rfl (ex_assign rfl rfl) ?_
  refine ops_nil ?_
  refine at_then ?_
  refine run_seq ?_
  refine run_seq ?_
  refine run_region rfl ?_
  refine ops_ex rfl (guard_none rfl) rfl rfl (ex_fieldAddr (off' := 0) rfl rfl Try.underlying37 rfl tsz2 rfl) ?_
  refine ops_ex rfl (guard_none rfl) rfl rfl (ex_load1 rfl rfl Try.underlying2 rfl ((HM.box_at 1 rfl) 0 _ rfl)) ?_
  refine ops_ex rfl (guard_none rfl) rfl rfl (ex_fieldAddr (off' := 0) rfl rfl Try.underlying37 rfl tsz2 rfl) ?_
  refine ops_ex rfl (guard_none rfl) rfl rfl (ex_load1 rfl rfl Try.underlying2 rfl ((HM.box_at 0 rfl) 0 _ rfl)) ?_
  refine ops_ex rfl (guard_none rfl) rfl rfl (ex_neq rfl rfl rfl) ?_
  refine ops_nil ?_
  refine at_then ?_
  refine run_cond (b := (x0.fKind != x1.fKind)) rfl (fun hb1784 => ?_) (fun hb1784 => ?_)
  · replace H := cond_t hb1784 H
    refine run_seq ?_
    refine run_region rfl ?_
    refine ops_ex rfl (guard_none rfl) rfl rfl (ex_assign rfl rfl) ?_
    refine ops_nil ?_
    refine at_then ?_
    refine run_ret ?_
    refine at_then_ret ?_
    replace HM := (HM.front 0 rfl rfl).drop
    replace HM := (HM.front 0 rfl rfl).drop
    have hR := Option.some.inj H
    subst hR
    exact at_ret1 rfl rfl ⟨_, rfl, rfl, HM⟩
  · replace H := cond_f hb1784 H
    refine run_skip ?_
    refine at_then ?_
    refine run_seq ?_
    refine run_seq ?_
    refine run_region rfl ?_
    refine ops_ex rfl (guard_none rfl) rfl rfl (ex_fieldAddr (off' := 1) rfl rfl Try.underlying37 rfl tsz2 rfl) ?_
    refine ops_ex rfl (guard_none rfl) rfl rfl (ex_load1 rfl rfl Try.underlying2 rfl ((HM.box_at 1 rfl) 1 _ rfl)) ?_
    refine ops_ex rfl (guard_none rfl) rfl rfl (ex_fieldAddr (off' := 1) rfl rfl Try.underlying37 rfl tsz2 rfl) ?_
    refine ops_ex rfl (guard_none rfl) rfl rfl (ex_load1 rfl rfl Try.underlying2 rfl ((HM.box_at 0 rfl) 1 _ rfl)) ?_
    refine ops_ex rfl (guard_none rfl) rfl rfl (ex_neq rfl rfl rfl) ?_
    refine ops_nil ?_
    refine at_then ?_
    refine run_cond (b := (x0.fMember != x1.fMember)) rfl (fun hb1786 => ?_) (fun hb1786 => ?_)
    · replace H := cond_t hb1786 H
      refine run_seq ?_
      refine run_region rfl ?_
      refine ops_ex rfl (guard_none rfl) rfl rfl (ex_assign rfl rfl) ?_
      refine ops_nil ?_
      refine at_then ?_
      refine run_ret ?_
      refine at_then_ret ?_
      replace HM := (HM.front 0 rfl rfl).drop
      replace HM := (HM.front 0 rfl rfl).drop
      have hR := Option.some.inj H
      subst hR
      exact at_ret1 rfl rfl ⟨_, rfl, rfl, HM⟩
    · replace H := cond_f hb1786 H
      refine run_skip ?_
      refine at_then ?_
      refine run_seq ?_
      refine run_seq ?_
      obtain ⟨t1790, h1791, H⟩ := bind_some H
      refine run_region rfl ?_
      refine ops_ex rfl (guard_none rfl) rfl rfl (ex_fieldAddr (off' := 2) rfl rfl Try.underlying37 rfl tsz34 rfl) ?_
      refine ops_ex rfl (guard_none rfl) rfl rfl (ex_load1 rfl rfl Try.underlying34 rfl ((HM.box_at 1 rfl) 2 _ rfl)) ?_
      refine ops_ex rfl (guard_none rfl) rfl rfl (ex_fieldAddr (off' := 2) rfl rfl Try.underlying37 rfl tsz34 rfl) ?_
      refine ops_ex rfl (guard_none rfl) rfl rfl (ex_load1 rfl rfl Try.underlying34 rfl ((HM.box_at 0 rfl) 2 _ rfl)) ?_
      refine ops_does rfl (guard_none rfl) rfl rfl (does_callk rfl callok76 rfl (laws_eqRefS.calls (x0 := x0.fIns) (x1 := x1.fIns) (HM.rd hp0_0) (HM.rd hp1_0) h1791)) ?_
      rintro _ w1792 ⟨rfl, hn⟩
      replace HM : Mem w [] w1792 [box b1778 37 [.int .i64 x1.fKind, .int .i64 x1.fMember, p1_0, p1_1], box b1775 37 [.int .i64 x0.fKind, .int .i64 x0.fMember, p0_0, p0_1]] := HM.call hn
      refine ops_ex rfl (guard_none rfl) rfl rfl (ex_not rfl rfl) ?_
      refine ops_nil ?_
      refine at_then ?_
      refine run_cond (b := !t1790) rfl (fun hb1793 => ?_) (fun hb1793 => ?_)
      · replace H := cond_t hb1793 H
        refine run_seq ?_
        refine run_region rfl ?_
        refine ops_ex rfl (guard_none rfl) rfl rfl (ex_assign rfl rfl) ?_
        refine ops_nil ?_
        refine at_then ?_
        refine run_ret ?_
        refine at_then_ret ?_
        replace HM := (HM.front 0 rfl rfl).drop
        replace HM := (HM.front 0 rfl rfl).drop
        have hR := Option.some.inj H
        subst hR
        exact at_ret1 rfl rfl ⟨_, rfl, rfl, HM⟩
      · replace H := cond_f hb1793 H
        refine run_skip ?_
        refine at_then ?_
        refine run_seq ?_
        refine run_seq ?_
        obtain ⟨t1794, h1795, H⟩ := bind_some H
        refine run_region rfl ?_
        refine ops_ex rfl (guard_none rfl) rfl rfl (ex_fieldAddr (off' := 3) rfl rfl Try.underlying37 rfl tsz35 rfl) ?_
        refine ops_ex rfl (guard_none rfl) rfl rfl (ex_load1 rfl rfl Try.underlying35 rfl ((HM.box_at 1 rfl) 3 _ rfl)) ?_
        refine ops_ex rfl (guard_none rfl) rfl rfl (ex_fieldAddr (off' := 3) rfl rfl Try.underlying37 rfl tsz35 rfl) ?_
        refine ops_ex rfl (guard_none rfl) rfl rfl (ex_load1 rfl rfl Try.underlying35 rfl ((HM.box_at 0 rfl) 3 _ rfl)) ?_
        refine ops_does rfl (guard_none rfl) rfl rfl (does_callk rfl callok77 rfl (laws_eqOutS.calls (x0 := x0.fOuts) (x1 := x1.fOuts) (HM.rd hp0_1) (HM.rd hp1_1) h1795)) ?_
        rintro _ w1796 ⟨rfl, hn⟩
        replace HM : Mem w [] w1796 [box b1778 37 [.int .i64 x1.fKind, .int .i64 x1.fMember, p1_0, p1_1], box b1775 37 [.int .i64 x0.fKind, .int .i64 x0.fMember, p0_0, p0_1]] := HM.call hn
        refine ops_ex rfl (guard_none rfl) rfl rfl (ex_not rfl rfl) ?_
        refine ops_nil ?_
        refine at_then ?_
        refine run_cond (b := !t1794) rfl (fun hb1797 => ?_) (fun hb1797 => ?_)
        · replace H := cond_t hb1797 H
          refine run_seq ?_
          refine run_region rfl ?_
          refine ops_ex rfl (guard_none rfl) rfl rfl (ex_assign rfl rfl) ?_
          refine ops_nil ?_
          refine at_then ?_
          refine run_ret ?_
          refine at_then_ret ?_
          replace HM := (HM.front 0 rfl rfl).drop
          replace HM := (HM.front 0 rfl rfl).drop
          have hR := Option.some.inj H
          subst hR
          exact at_ret1 rfl rfl ⟨_, rfl, rfl, HM⟩
        · replace H := cond_f hb1797 H
          refine run_skip ?_
          refine at_then ?_
          refine run_seq ?_
          refine run_region rfl ?_
          refine ops_ex rfl (guard_none rfl) rfl rfl (ex_assign rfl rfl) ?_
          refine ops_nil ?_
          refine at_then ?_
          refine run_ret ?_
          replace HM := (HM.front 0 rfl rfl).drop
          replace HM := (HM.front 0 rfl rfl).drop
          have hR := Option.some.inj H
          subst hR
          exact at_ret1 rfl rfl ⟨_, rfl, rfl, HM⟩

def laws_FnExactSameTxs.f (k : Nat) (x0 : Tx) (x1 : Tx) : Option Bool := ((laws_szTx.f k x0 1048576).bind fun t1827 => (bif (decide (t1827 < 0)) then some true else ((laws_szTx.f k x1 t1827).bind fun t1832 => (bif (decide (t1832 < 0)) then some true else ((laws_toTx.f k x0).bind fun t1837 => ((laws_toTx.f k x1).bind fun t1843 => ((spec_SameTxs.f k t1837 t1843).bind fun t1849 => ((laws_toTx.f k x0).bind fun t1854 => ((laws_toTx.f k x1).bind fun t1866 => ((impl_SameTxs.f k t1854 t1866).bind fun t1878 => (bif (t1878 != t1849) then some false else ((laws_toTx.f k x0).bind fun t1892 => ((laws_eqTx.f k t1854 t1892).bind fun t1898 => (bif !t1898 then some false else ((laws_toTx.f k x1).bind fun t1903 => ((laws_eqTx.f k t1866 t1903).bind fun t1909 => (bif !t1909 then some false else some true)))))))))))))))))
theorem laws_FnExactSameTxs.calls {k : Nat} {x0 : Tx} {x1 : Tx} {p0_0 : Value} {p0_1 : Value} {p1_0 : Value} {p1_1 : Value} {w : World} (hp0_0 : RdS kRef w p0_0 x0.fIns) (hp0_1 : RdS kOut w p0_1 x0.fOuts) (hp1_0 : RdS kRef w p1_0 x1.fIns) (hp1_1 : RdS kOut w p1_1 x1.fOuts) {r : Bool} (H : laws_FnExactSameTxs.f k x0 x1 = some r) :
    Calls Try.prog 4 ([.agg #[(.int .i64 x0.fKind), (.int .i64 x0.fMember), p0_0, p0_1], .agg #[(.int .i64 x1.fKind), (.int .i64 x1.fMember), p1_0, p1_1]] : List Value).toArray w (fun e w_ => ∃ v, e = .returned v ∧ v = (.bool r) ∧ Mem w [] w_ []) := by
  have HM := Mem.start w
  refine calls_run (N := 45) Try.func4 rfl rfl rfl rfl ?_
  unfold laws_FnExactSameTxs.f at H
  refine run_seq ?_
  refine run_region rfl ?_
  refine ops_does rfl (guard_none rfl) rfl rfl (does_box (cs := [.int .i64 x0.fKind, .int .i64 x0.fMember, p0_0, p0_1]) rfl rfl rfl HM) ?_
  rintro _ w1825 ⟨b1819, rfl, HM⟩
  refine ops_does rfl (guard_none rfl) rfl rfl (does_box (cs := [.int .i64 x1.fKind, .int .i64 x1.fMember, p1_0, p1_1]) rfl rfl rfl HM) ?_
  rintro _ w1826 ⟨b1822, rfl, HM⟩
  refine ops_ex rfl (guard_none rfl) rfl rfl (ex_assign rfl rfl) ?_
  refine ops_nil ?_
  refine at_then ?_
  refine run_seq ?_
  refine run_region rfl ?_
  refine ops_ex rfl (guard_none rfl) rfl rfl (ex_assign rfl rfl) ?_
  refine ops_nil ?_
  refine at_then ?_
  refine run_seq ?_
  obtain ⟨t1827, h1828, H⟩ := bind_some H
  refine run_region rfl ?_
  refine ops_ex rfl (guard_none rfl) rfl rfl (ex_loadN (cs := [(.int .i64 x0.fKind), (.int .i64 x0.fMember), p0_0, p0_1]) rfl rfl Try.underlying31 rfl tsz31 rfl ((HM.box_at 1 rfl).sub 0 4 rfl)) ?_
  refine ops_ex rfl (guard_none rfl) rfl rfl (ex_move rfl rfl) ?_
  refine ops_does rfl (guard_none rfl) rfl rfl (does_callk rfl callok20 rfl (laws_szTx.calls (x0 := x0) (x1 := 1048576) (HM.rd hp0_0) (HM.rd hp0_1) h1828)) ?_
  rintro _ w1829 ⟨rfl, hn⟩
  replace HM : Mem w [] w1829 [box b1822 31 [.int .i64 x1.fKind, .int .i64 x1.fMember, p1_0, p1_1], box b1819 31 [.int .i64 x0.fKind, .int .i64 x0.fMember, p0_0, p0_1]] := HM.call hn
  refine ops_ex rfl (guard_none rfl) rfl rfl (ex_assign rfl rfl) ?_
  refine ops_nil ?_
  refine at_then ?_
  refine run_seq ?_
  refine run_seq ?_
  refine run_region rfl ?_
  refine ops_ex rfl (guard_none rfl) rfl rfl (ex_move rfl rfl) ?_
  refine ops_ex rfl (guard_none rfl) rfl rfl (ex_lss rfl rfl rfl) ?_
  refine ops_nil ?_
  refine at_then ?_
  refine run_cond (b := (decide (t1827 < 0))) rfl (fun hb1831 => ?_) (fun hb1831 => ?_)
  · replace H := cond_t hb1831 H
    refine run_seq ?_
    refine run_region rfl ?_
    refine ops_ex rfl (guard_none rfl) rfl rfl (ex_assign rfl rfl) ?_
    refine ops_nil ?_
    refine at_then ?_
    refine run_ret ?_
    refine at_then_ret ?_
    replace HM := (HM.front 0 rfl rfl).drop
    replace HM := (HM.front 0 rfl rfl).drop
    have hR := Option.some.inj H
    subst hR
    exact at_ret1 rfl rfl ⟨_, rfl, rfl, HM⟩
  · replace H := cond_f hb1831 H
    refine run_skip ?_
    refine at_then ?_
    refine run_seq ?_
    obtain ⟨t1832, h1833, H⟩ := bind_some H
    refine run_region rfl ?_
    refine ops_ex rfl (guard_none rfl) rfl rfl (ex_loadN (cs := [(.int .i64 x1.fKind), (.int .i64 x1.fMember), p1_0, p1_1]) rfl rfl Try.underlying31 rfl tsz31 rfl ((HM.box_at 0 rfl).sub 0 4 rfl)) ?_
    refine ops_ex rfl (guard_none rfl) rfl rfl (ex_move rfl rfl) ?_
    refine ops_does rfl (guard_none rfl) rfl rfl (does_callk rfl callok20 rfl (laws_szTx.calls (x0 := x1) (x1 := t1827) (HM.rd hp1_0) (HM.rd hp1_1) h1833)) ?_
    rintro _ w1834 ⟨rfl, hn⟩
    replace HM : Mem w [] w1834 [box b1822 31 [.int .i64 x1.fKind, .int .i64 x1.fMember, p1_0, p1_1], box b1819 31 [.int .i64 x0.fKind, .int .i64 x0.fMember, p0_0, p0_1]] := HM.call hn
    refine ops_ex rfl (guard_none rfl) rfl rfl (ex_assign rfl rfl) ?_
    refine ops_nil ?_
    refine at_then ?_
    refine run_seq ?_
    refine run_seq ?_
    refine run_region rfl ?_
    refine ops_ex rfl (guard_none rfl) rfl rfl (ex_move rfl rfl) ?_
    refine ops_ex rfl (guard_none rfl) rfl rfl (ex_lss rfl rfl rfl) ?_
    refine ops_nil ?_
    refine at_then ?_
    refine run_cond (b := (decide (t1832 < 0))) rfl (fun hb1836 => ?_) (fun hb1836 => ?_)
    · replace H := cond_t hb1836 H
      refine run_seq ?_
      refine run_region rfl ?_
      refine ops_ex rfl (guard_none rfl) rfl rfl (ex_assign rfl rfl) ?_
      refine ops_nil ?_
      refine at_then ?_
      refine run_ret ?_
      refine at_then_ret ?_
      replace HM := (HM.front 0 rfl rfl).drop
      replace HM := (HM.front 0 rfl rfl).drop
      have hR := Option.some.inj H
      subst hR
      exact at_ret1 rfl rfl ⟨_, rfl, rfl, HM⟩
    · replace H := cond_f hb1836 H
      refine run_skip ?_
      refine at_then ?_
      refine run_seq ?_
      obtain ⟨t1837, h1838, H⟩ := bind_some H
      obtain ⟨t1843, h1844, H⟩ := bind_some H
      obtain ⟨t1849, h1850, H⟩ := bind_some H
      refine run_drawf (fun w_ => Mem w [] w_ [box b1822 31 [.int .i64 x1.fKind, .int .i64 x1.fMember, p1_0, p1_1], box b1819 31 [.int .i64 x0.fKind, .int .i64 x0.fMember, p0_0, p0_1]]) [(0, true), (2, true), (1, false), (3, false), (4, false), (5, true)] mixed rfl rfl (by kernel_rfl) ?_
      replace HM := HM.grow (fr_drew _)
      have hS := Mem.suf (M := []) HM
      refine drwp_take rfl (guard_none rfl) rfl rfl (fun w_ hS_ => (ex_loadN (cs := [(.int .i64 x0.fKind), (.int .i64 x0.fMember), p0_0, p0_1]) rfl rfl Try.underlying31 rfl tsz31 rfl ((hS_.box_at 1 rfl).sub 0 4 rfl))) hS ?_
      refine drwp_take rfl (guard_none rfl) rfl rfl (fun w_ hS_ => (ex_loadN (cs := [(.int .i64 x1.fKind), (.int .i64 x1.fMember), p1_0, p1_1]) rfl rfl Try.underlying31 rfl tsz31 rfl ((hS_.box_at 0 rfl).sub 0 4 rfl))) hS ?_
      refine drwp_one rfl (guard_none rfl) rfl rfl (does_callk rfl callok22 rfl (laws_toTx.calls (x0 := x0) (HM.rd hp0_0) (HM.rd hp0_1) h1838)) ?_
      rintro _ w1851 ⟨u1839, u1841, rfl, hn⟩
      replace HM : Mem w [] w1851 [own kRef 99 u1839 t1837.fIns, own kOut 102 u1841 t1837.fOuts, box b1822 31 [.int .i64 x1.fKind, .int .i64 x1.fMember, p1_0, p1_1], box b1819 31 [.int .i64 x0.fKind, .int .i64 x0.fMember, p0_0, p0_1]] := HM.call hn
      refine ⟨Mem.suf (M := [own kRef 99 u1839 t1837.fIns, own kOut 102 u1841 t1837.fOuts]) HM, ?_⟩
      have hS := Mem.suf (M := [own kRef 99 u1839 t1837.fIns, own kOut 102 u1841 t1837.fOuts]) HM
      refine drwp_one rfl (guard_none rfl) rfl rfl (does_callk rfl callok22 rfl (laws_toTx.calls (x0 := x1) (HM.rd hp1_0) (HM.rd hp1_1) h1844)) ?_
      rintro _ w1852 ⟨u1845, u1847, rfl, hn⟩
      replace HM : Mem w [] w1852 [own kRef 99 u1845 t1843.fIns, own kOut 102 u1847 t1843.fOuts, own kRef 99 u1839 t1837.fIns, own kOut 102 u1841 t1837.fOuts, box b1822 31 [.int .i64 x1.fKind, .int .i64 x1.fMember, p1_0, p1_1], box b1819 31 [.int .i64 x0.fKind, .int .i64 x0.fMember, p0_0, p0_1]] := HM.call hn
      refine ⟨Mem.suf (M := [own kRef 99 u1845 t1843.fIns, own kOut 102 u1847 t1843.fOuts, own kRef 99 u1839 t1837.fIns, own kOut 102 u1841 t1837.fOuts]) HM, ?_⟩
      have hS := Mem.suf (M := [own kRef 99 u1845 t1843.fIns, own kOut 102 u1847 t1843.fOuts, own kRef 99 u1839 t1837.fIns, own kOut 102 u1841 t1837.fOuts]) HM
      refine drwp_one rfl (guard_none rfl) rfl rfl (does_callk rfl callok21 rfl (spec_SameTxs.calls (x0 := t1837) (x1 := t1843) (HM.own_rd 2 rfl) (HM.own_rd 3 rfl) (HM.own_rd 0 rfl) (HM.own_rd 1 rfl) h1850)) ?_
      rintro _ w1853 ⟨rfl, hn⟩
      replace HM : Mem w [] w1853 [own kRef 99 u1845 t1843.fIns, own kOut 102 u1847 t1843.fOuts, own kRef 99 u1839 t1837.fIns, own kOut 102 u1841 t1837.fOuts, box b1822 31 [.int .i64 x1.fKind, .int .i64 x1.fMember, p1_0, p1_1], box b1819 31 [.int .i64 x0.fKind, .int .i64 x0.fMember, p0_0, p0_1]] := HM.call hn
      refine ⟨Mem.suf (M := [own kRef 99 u1845 t1843.fIns, own kOut 102 u1847 t1843.fOuts, own kRef 99 u1839 t1837.fIns, own kOut 102 u1841 t1837.fOuts]) HM, ?_⟩
      have hS := Mem.suf (M := [own kRef 99 u1845 t1843.fIns, own kOut 102 u1847 t1843.fOuts, own kRef 99 u1839 t1837.fIns, own kOut 102 u1841 t1837.fOuts]) HM
      refine drwp_take rfl (guard_none rfl) rfl rfl (fun w_ hS_ => (ex_assign rfl rfl)) hS ?_
      refine drwp_done ?_
      refine at_then ?_
      refine run_seq ?_
      obtain ⟨t1854, h1855, H⟩ := bind_some H
      refine run_region rfl ?_
      refine ops_ex rfl (guard_none rfl) rfl rfl (ex_loadN (cs := [(.int .i64 x0.fKind), (.int .i64 x0.fMember), p0_0, p0_1]) rfl rfl Try.underlying31 rfl tsz31 rfl ((HM.box_at 5 rfl).sub 0 4 rfl)) ?_
      refine ops_does rfl (guard_none rfl) rfl rfl (does_callk rfl callok22 rfl (laws_toTx.calls (x0 := x0) (HM.rd hp0_0) (HM.rd hp0_1) h1855)) ?_
      rintro _ w1863 ⟨u1856, u1858, rfl, hn⟩
      replace HM : Mem w [] w1863 [own kRef 99 u1856 t1854.fIns, own kOut 102 u1858 t1854.fOuts, own kRef 99 u1845 t1843.fIns, own kOut 102 u1847 t1843.fOuts, own kRef 99 u1839 t1837.fIns, own kOut 102 u1841 t1837.fOuts, box b1822 31 [.int .i64 x1.fKind, .int .i64 x1.fMember, p1_0, p1_1], box b1819 31 [.int .i64 x0.fKind, .int .i64 x0.fMember, p0_0, p0_1]] := HM.call hn
      refine ops_does rfl (guard_none rfl) rfl rfl (does_alloc (cs := [.int .i64 0, .int .i64 0, .slice none 0 0, .slice none 0 0]) rfl tz37 rfl HM) ?_
      rintro _ w1864 ⟨b1860, rfl, HM⟩
      refine ops_doesS rfl (guard_none rfl) rfl (does_store (vs := [.int .i64 t1854.fKind, .int .i64 t1854.fMember, u1856, u1858]) (cs' := [.int .i64 t1854.fKind, .int .i64 t1854.fMember, u1856, u1858]) rfl rfl rfl rfl tsz37 (Ones.int (Ones.int (Ones.rd (HM.own_rd 1 rfl) (Ones.rd (HM.own_rd 2 rfl) Ones.nil)))) rfl rfl HM) ?_
      rintro w1865 HM
      refine ops_nil ?_
      refine at_then ?_
      refine run_seq ?_
      obtain ⟨t1866, h1867, H⟩ := bind_some H
      refine run_region rfl ?_
      refine ops_ex rfl (guard_none rfl) rfl rfl (ex_loadN (cs := [(.int .i64 x1.fKind), (.int .i64 x1.fMember), p1_0, p1_1]) rfl rfl Try.underlying31 rfl tsz31 rfl ((HM.box_at 7 rfl).sub 0 4 rfl)) ?_
      refine ops_does rfl (guard_none rfl) rfl rfl (does_callk rfl callok22 rfl (laws_toTx.calls (x0 := x1) (HM.rd hp1_0) (HM.rd hp1_1) h1867)) ?_
      rintro _ w1875 ⟨u1868, u1870, rfl, hn⟩
      replace HM : Mem w [] w1875 [own kRef 99 u1868 t1866.fIns, own kOut 102 u1870 t1866.fOuts, box b1860 37 [.int .i64 t1854.fKind, .int .i64 t1854.fMember, u1856, u1858], own kRef 99 u1856 t1854.fIns, own kOut 102 u1858 t1854.fOuts, own kRef 99 u1845 t1843.fIns, own kOut 102 u1847 t1843.fOuts, own kRef 99 u1839 t1837.fIns, own kOut 102 u1841 t1837.fOuts, box b1822 31 [.int .i64 x1.fKind, .int .i64 x1.fMember, p1_0, p1_1], box b1819 31 [.int .i64 x0.fKind, .int .i64 x0.fMember, p0_0, p0_1]] := HM.call hn
      refine ops_does rfl (guard_none rfl) rfl rfl (does_alloc (cs := [.int .i64 0, .int .i64 0, .slice none 0 0, .slice none 0 0]) rfl tz37 rfl HM) ?_
      rintro _ w1876 ⟨b1872, rfl, HM⟩
      refine ops_doesS rfl (guard_none rfl) rfl (does_store (vs := [.int .i64 t1866.fKind, .int .i64 t1866.fMember, u1868, u1870]) (cs' := [.int .i64 t1866.fKind, .int .i64 t1866.fMember, u1868, u1870]) rfl rfl rfl rfl tsz37 (Ones.int (Ones.int (Ones.rd (HM.own_rd 1 rfl) (Ones.rd (HM.own_rd 2 rfl) Ones.nil)))) rfl rfl HM) ?_
      rintro w1877 HM
      refine ops_nil ?_
      refine at_then ?_
      refine run_seq ?_
      obtain ⟨t1878, h1879, H⟩ := bind_some H
      refine run_region rfl ?_
      refine ops_ex rfl (guard_none rfl) rfl rfl (ex_loadN (cs := [(.int .i64 t1854.fKind), (.int .i64 t1854.fMember), u1856, u1858]) rfl rfl Try.underlying37 rfl tsz37 rfl ((HM.box_at 3 rfl).sub 0 4 rfl)) ?_
      refine ops_ex rfl (guard_none rfl) rfl rfl (ex_loadN (cs := [(.int .i64 t1866.fKind), (.int .i64 t1866.fMember), u1868, u1870]) rfl rfl Try.underlying37 rfl tsz37 rfl ((HM.box_at 0 rfl).sub 0 4 rfl)) ?_
      refine ops_does rfl (guard_none rfl) rfl rfl (does_callk rfl callok23 rfl (impl_SameTxs.calls (x0 := t1854) (x1 := t1866) (HM.own_rd 4 rfl) (HM.own_rd 5 rfl) (HM.own_rd 1 rfl) (HM.own_rd 2 rfl) h1879)) ?_
      rintro _ w1880 ⟨rfl, hn⟩
      replace HM : Mem w [] w1880 [box b1872 37 [.int .i64 t1866.fKind, .int .i64 t1866.fMember, u1868, u1870], own kRef 99 u1868 t1866.fIns, own kOut 102 u1870 t1866.fOuts, box b1860 37 [.int .i64 t1854.fKind, .int .i64 t1854.fMember, u1856, u1858], own kRef 99 u1856 t1854.fIns, own kOut 102 u1858 t1854.fOuts, own kRef 99 u1845 t1843.fIns, own kOut 102 u1847 t1843.fOuts, own kRef 99 u1839 t1837.fIns, own kOut 102 u1841 t1837.fOuts, box b1822 31 [.int .i64 x1.fKind, .int .i64 x1.fMember, p1_0, p1_1], box b1819 31 [.int .i64 x0.fKind, .int .i64 x0.fMember, p0_0, p0_1]] := HM.call hn
      refine ops_ex rfl (guard_none rfl) rfl rfl (ex_assign rfl rfl) ?_
      refine ops_nil ?_
      refine at_then ?_
      refine run_seq ?_
      refine run_seq ?_
      refine run_region rfl ?_
      refine ops_ex rfl (guard_none rfl) rfl rfl (ex_move rfl rfl) ?_
      refine ops_ex rfl (guard_none rfl) rfl rfl (ex_move rfl rfl) ?_
      refine ops_ex rfl (guard_none rfl) rfl rfl (ex_bneq rfl rfl rfl Try.underlying4) ?_
      refine ops_nil ?_
      refine at_then ?_
      refine run_cond (b := (t1878 != t1849)) rfl (fun hb1882 => ?_) (fun hb1882 => ?_)
      · replace H := cond_t hb1882 H
        refine run_seq ?_
        refine run_region rfl ?_
        refine ops_ex rfl (guard_none rfl) rfl rfl (ex_assign rfl rfl) ?_
        refine ops_nil ?_
        refine at_then ?_
        refine run_ret ?_
        refine at_then_ret ?_
        replace HM := (HM.front 0 rfl rfl).drop
        replace HM := (HM.front 0 rfl rfl).drop
        replace HM := (HM.front 0 rfl rfl).drop
        replace HM := (HM.front 0 rfl rfl).drop
        replace HM := (HM.front 0 rfl rfl).drop
        replace HM := (HM.front 0 rfl rfl).drop
        replace HM := (HM.front 0 rfl rfl).drop
        replace HM := (HM.front 0 rfl rfl).drop
        replace HM := (HM.front 0 rfl rfl).drop
        replace HM := (HM.front 0 rfl rfl).drop
        replace HM := (HM.front 0 rfl rfl).drop
        replace HM := (HM.front 0 rfl rfl).drop
        have hR := Option.some.inj H
        subst hR
        exact at_ret1 rfl rfl ⟨_, rfl, rfl, HM⟩
      · replace H := cond_f hb1882 H
        refine run_skip ?_
        refine at_then ?_
        refine run_seq ?_
        refine run_seq ?_
        obtain ⟨t1892, h1893, H⟩ := bind_some H
        obtain ⟨t1898, h1899, H⟩ := bind_some H
        refine run_drawf (fun w_ => Mem w [] w_ [box b1872 37 [.int .i64 t1866.fKind, .int .i64 t1866.fMember, u1868, u1870], own kRef 99 u1868 t1866.fIns, own kOut 102 u1870 t1866.fOuts, box b1860 37 [.int .i64 t1854.fKind, .int .i64 t1854.fMember, u1856, u1858], own kRef 99 u1856 t1854.fIns, own kOut 102 u1858 t1854.fOuts, own kRef 99 u1845 t1843.fIns, own kOut 102 u1847 t1843.fOuts, own kRef 99 u1839 t1837.fIns, own kOut 102 u1841 t1837.fOuts, box b1822 31 [.int .i64 x1.fKind, .int .i64 x1.fMember, p1_0, p1_1], box b1819 31 [.int .i64 x0.fKind, .int .i64 x0.fMember, p0_0, p0_1]]) [(0, true), (1, true), (2, false), (3, false), (4, true)] mixed rfl rfl (by kernel_rfl) ?_
        replace HM := HM.grow (fr_drew _)
        have hS := Mem.suf (M := []) HM
        refine drwp_take rfl (guard_none rfl) rfl rfl (fun w_ hS_ => (ex_loadN (cs := [(.int .i64 t1854.fKind), (.int .i64 t1854.fMember), u1856, u1858]) rfl rfl Try.underlying37 rfl tsz37 rfl ((hS_.box_at 3 rfl).sub 0 4 rfl))) hS ?_
        refine drwp_take rfl (guard_none rfl) rfl rfl (fun w_ hS_ => (ex_loadN (cs := [(.int .i64 x0.fKind), (.int .i64 x0.fMember), p0_0, p0_1]) rfl rfl Try.underlying31 rfl tsz31 rfl ((hS_.box_at 11 rfl).sub 0 4 rfl))) hS ?_
        refine drwp_one rfl (guard_none rfl) rfl rfl (does_callk rfl callok22 rfl (laws_toTx.calls (x0 := x0) (HM.rd hp0_0) (HM.rd hp0_1) h1893)) ?_
        rintro _ w1900 ⟨u1894, u1896, rfl, hn⟩
        replace HM : Mem w [] w1900 [own kRef 99 u1894 t1892.fIns, own kOut 102 u1896 t1892.fOuts, box b1872 37 [.int .i64 t1866.fKind, .int .i64 t1866.fMember, u1868, u1870], own kRef 99 u1868 t1866.fIns, own kOut 102 u1870 t1866.fOuts, box b1860 37 [.int .i64 t1854.fKind, .int .i64 t1854.fMember, u1856, u1858], own kRef 99 u1856 t1854.fIns, own kOut 102 u1858 t1854.fOuts, own kRef 99 u1845 t1843.fIns, own kOut 102 u1847 t1843.fOuts, own kRef 99 u1839 t1837.fIns, own kOut 102 u1841 t1837.fOuts, box b1822 31 [.int .i64 x1.fKind, .int .i64 x1.fMember, p1_0, p1_1], box b1819 31 [.int .i64 x0.fKind, .int .i64 x0.fMember, p0_0, p0_1]] := HM.call hn
        refine ⟨Mem.suf (M := [own kRef 99 u1894 t1892.fIns, own kOut 102 u1896 t1892.fOuts]) HM, ?_⟩
        have hS := Mem.suf (M := [own kRef 99 u1894 t1892.fIns, own kOut 102 u1896 t1892.fOuts]) HM
        refine drwp_one rfl (guard_none rfl) rfl rfl (does_callk rfl callok24 rfl (laws_eqTx.calls (x0 := t1854) (x1 := t1892) (HM.own_rd 6 rfl) (HM.own_rd 7 rfl) (HM.own_rd 0 rfl) (HM.own_rd 1 rfl) h1899)) ?_
        rintro _ w1901 ⟨rfl, hn⟩
        replace HM : Mem w [] w1901 [own kRef 99 u1894 t1892.fIns, own kOut 102 u1896 t1892.fOuts, box b1872 37 [.int .i64 t1866.fKind, .int .i64 t1866.fMember, u1868, u1870], own kRef 99 u1868 t1866.fIns, own kOut 102 u1870 t1866.fOuts, box b1860 37 [.int .i64 t1854.fKind, .int .i64 t1854.fMember, u1856, u1858], own kRef 99 u1856 t1854.fIns, own kOut 102 u1858 t1854.fOuts, own kRef 99 u1845 t1843.fIns, own kOut 102 u1847 t1843.fOuts, own kRef 99 u1839 t1837.fIns, own kOut 102 u1841 t1837.fOuts, box b1822 31 [.int .i64 x1.fKind, .int .i64 x1.fMember, p1_0, p1_1], box b1819 31 [.int .i64 x0.fKind, .int .i64 x0.fMember, p0_0, p0_1]] := HM.call hn
        refine ⟨Mem.suf (M := [own kRef 99 u1894 t1892.fIns, own kOut 102 u1896 t1892.fOuts]) HM, ?_⟩
        have hS := Mem.suf (M := [own kRef 99 u1894 t1892.fIns, own kOut 102 u1896 t1892.fOuts]) HM
        refine drwp_take rfl (guard_none rfl) rfl rfl (fun w_ hS_ => (ex_not rfl rfl)) hS ?_
        refine drwp_done ?_
        refine at_then ?_
        refine run_cond (b := !t1898) rfl (fun hb1902 => ?_) (fun hb1902 => ?_)
        · replace H := cond_t hb1902 H
          refine run_seq ?_
          refine run_region rfl ?_
          refine ops_ex rfl (guard_none rfl) rfl rfl (ex_assign rfl rfl) ?_
          refine ops_nil ?_
          refine at_then ?_
          refine run_ret ?_
          refine at_then_ret ?_
          replace HM := (HM.front 0 rfl rfl).drop
          replace HM := (HM.front 0 rfl rfl).drop
          replace HM := (HM.front 0 rfl rfl).drop
          replace HM := (HM.front 0 rfl rfl).drop
          replace HM := (HM.front 0 rfl rfl).drop
          replace HM := (HM.front 0 rfl rfl).drop
          replace HM := (HM.front 0 rfl rfl).drop
          replace HM := (HM.front 0 rfl rfl).drop
          replace HM := (HM.front 0 rfl rfl).drop
          replace HM := (HM.front 0 rfl rfl).drop
          replace HM := (HM.front 0 rfl rfl).drop
          replace HM := (HM.front 0 rfl rfl).drop
          replace HM := (HM.front 0 rfl rfl).drop
          replace HM := (HM.front 0 rfl rfl).drop
          have hR := Option.some.inj H
          subst hR
          exact at_ret1 rfl rfl ⟨_, rfl, rfl, HM⟩
        · replace H := cond_f hb1902 H
          refine run_skip ?_
          refine at_then ?_
          refine run_seq ?_
          refine run_seq ?_
          obtain ⟨t1903, h1904, H⟩ := bind_some H
          obtain ⟨t1909, h1910, H⟩ := bind_some H
          refine run_drawf (fun w_ => Mem w [] w_ [own kRef 99 u1894 t1892.fIns, own kOut 102 u1896 t1892.fOuts, box b1872 37 [.int .i64 t1866.fKind, .int .i64 t1866.fMember, u1868, u1870], own kRef 99 u1868 t1866.fIns, own kOut 102 u1870 t1866.fOuts, box b1860 37 [.int .i64 t1854.fKind, .int .i64 t1854.fMember, u1856, u1858], own kRef 99 u1856 t1854.fIns, own kOut 102 u1858 t1854.fOuts, own kRef 99 u1845 t1843.fIns, own kOut 102 u1847 t1843.fOuts, own kRef 99 u1839 t1837.fIns, own kOut 102 u1841 t1837.fOuts, box b1822 31 [.int .i64 x1.fKind, .int .i64 x1.fMember, p1_0, p1_1], box b1819 31 [.int .i64 x0.fKind, .int .i64 x0.fMember, p0_0, p0_1]]) [(0, true), (1, true), (2, false), (3, false), (4, true)] mixed rfl rfl (by kernel_rfl) ?_
          replace HM := HM.grow (fr_drew _)
          have hS := Mem.suf (M := []) HM
          refine drwp_take rfl (guard_none rfl) rfl rfl (fun w_ hS_ => (ex_loadN (cs := [(.int .i64 t1866.fKind), (.int .i64 t1866.fMember), u1868, u1870]) rfl rfl Try.underlying37 rfl tsz37 rfl ((hS_.box_at 2 rfl).sub 0 4 rfl))) hS ?_
          refine drwp_take rfl (guard_none rfl) rfl rfl (fun w_ hS_ => (ex_loadN (cs := [(.int .i64 x1.fKind), (.int .i64 x1.fMember), p1_0, p1_1]) rfl rfl Try.underlying31 rfl tsz31 rfl ((hS_.box_at 12 rfl).sub 0 4 rfl))) hS ?_
          refine drwp_one rfl (guard_none rfl) rfl rfl (does_callk rfl callok22 rfl (laws_toTx.calls (x0 := x1) (HM.rd hp1_0) (HM.rd hp1_1) h1904)) ?_
          rintro _ w1911 ⟨u1905, u1907, rfl, hn⟩
          replace HM : Mem w [] w1911 [own kRef 99 u1905 t1903.fIns, own kOut 102 u1907 t1903.fOuts, own kRef 99 u1894 t1892.fIns, own kOut 102 u1896 t1892.fOuts, box b1872 37 [.int .i64 t1866.fKind, .int .i64 t1866.fMember, u1868, u1870], own kRef 99 u1868 t1866.fIns, own kOut 102 u1870 t1866.fOuts, box b1860 37 [.int .i64 t1854.fKind, .int .i64 t1854.fMember, u1856, u1858], own kRef 99 u1856 t1854.fIns, own kOut 102 u1858 t1854.fOuts, own kRef 99 u1845 t1843.fIns, own kOut 102 u1847 t1843.fOuts, own kRef 99 u1839 t1837.fIns, own kOut 102 u1841 t1837.fOuts, box b1822 31 [.int .i64 x1.fKind, .int .i64 x1.fMember, p1_0, p1_1], box b1819 31 [.int .i64 x0.fKind, .int .i64 x0.fMember, p0_0, p0_1]] := HM.call hn
          refine ⟨Mem.suf (M := [own kRef 99 u1905 t1903.fIns, own kOut 102 u1907 t1903.fOuts]) HM, ?_⟩
          have hS := Mem.suf (M := [own kRef 99 u1905 t1903.fIns, own kOut 102 u1907 t1903.fOuts]) HM
          refine drwp_one rfl (guard_none rfl) rfl rfl (does_callk rfl callok24 rfl (laws_eqTx.calls (x0 := t1866) (x1 := t1903) (HM.own_rd 5 rfl) (HM.own_rd 6 rfl) (HM.own_rd 0 rfl) (HM.own_rd 1 rfl) h1910)) ?_
          rintro _ w1912 ⟨rfl, hn⟩
          replace HM : Mem w [] w1912 [own kRef 99 u1905 t1903.fIns, own kOut 102 u1907 t1903.fOuts, own kRef 99 u1894 t1892.fIns, own kOut 102 u1896 t1892.fOuts, box b1872 37 [.int .i64 t1866.fKind, .int .i64 t1866.fMember, u1868, u1870], own kRef 99 u1868 t1866.fIns, own kOut 102 u1870 t1866.fOuts, box b1860 37 [.int .i64 t1854.fKind, .int .i64 t1854.fMember, u1856, u1858], own kRef 99 u1856 t1854.fIns, own kOut 102 u1858 t1854.fOuts, own kRef 99 u1845 t1843.fIns, own kOut 102 u1847 t1843.fOuts, own kRef 99 u1839 t1837.fIns, own kOut 102 u1841 t1837.fOuts, box b1822 31 [.int .i64 x1.fKind, .int .i64 x1.fMember, p1_0, p1_1], box b1819 31 [.int .i64 x0.fKind, .int .i64 x0.fMember, p0_0, p0_1]] := HM.call hn
          refine ⟨Mem.suf (M := [own kRef 99 u1905 t1903.fIns, own kOut 102 u1907 t1903.fOuts]) HM, ?_⟩
          have hS := Mem.suf (M := [own kRef 99 u1905 t1903.fIns, own kOut 102 u1907 t1903.fOuts]) HM
          refine drwp_take rfl (guard_none rfl) rfl rfl (fun w_ hS_ => (ex_not rfl rfl)) hS ?_
          refine drwp_done ?_
          refine at_then ?_
          refine run_cond (b := !t1909) rfl (fun hb1913 => ?_) (fun hb1913 => ?_)
          · replace H := cond_t hb1913 H
            refine run_seq ?_
            refine run_region rfl ?_
            refine ops_ex rfl (guard_none rfl) rfl rfl (ex_assign rfl rfl) ?_
            refine ops_nil ?_
            refine at_then ?_
            refine run_ret ?_
            refine at_then_ret ?_
            replace HM := (HM.front 0 rfl rfl).drop
            replace HM := (HM.front 0 rfl rfl).drop
            replace HM := (HM.front 0 rfl rfl).drop
            replace HM := (HM.front 0 rfl rfl).drop
            replace HM := (HM.front 0 rfl rfl).drop
            replace HM := (HM.front 0 rfl rfl).drop
            replace HM := (HM.front 0 rfl rfl).drop
            replace HM := (HM.front 0 rfl rfl).drop
            replace HM := (HM.front 0 rfl rfl).drop
            replace HM := (HM.front 0 rfl rfl).drop
            replace HM := (HM.front 0 rfl rfl).drop
            replace HM := (HM.front 0 rfl rfl).drop
            replace HM := (HM.front 0 rfl rfl).drop
            replace HM := (HM.front 0 rfl rfl).drop
            replace HM := (HM.front 0 rfl rfl).drop
            replace HM := (HM.front 0 rfl rfl).drop
            have hR := Option.some.inj H
            subst hR
            exact at_ret1 rfl rfl ⟨_, rfl, rfl, HM⟩
          · replace H := cond_f hb1913 H
            refine run_skip ?_
            refine at_then ?_
            refine run_seq ?_
            refine run_region rfl ?_
            refine ops_ex rfl (guard_none rfl) rfl rfl (ex_assign rfl rfl) ?_
            refine ops_nil ?_
            refine at_then ?_
            refine run_ret ?_
            replace HM := (HM.front 0 rfl rfl).drop
            replace HM := (HM.front 0 rfl rfl).drop
            replace HM := (HM.front 0 rfl rfl).drop
            replace HM := (HM.front 0 rfl rfl).drop
            replace HM := (HM.front 0 rfl rfl).drop
            replace HM := (HM.front 0 rfl rfl).drop
            replace HM := (HM.front 0 rfl rfl).drop
            replace HM := (HM.front 0 rfl rfl).drop
            replace HM := (HM.front 0 rfl rfl).drop
            replace HM := (HM.front 0 rfl rfl).drop
            replace HM := (HM.front 0 rfl rfl).drop
            replace HM := (HM.front 0 rfl rfl).drop
            replace HM := (HM.front 0 rfl rfl).drop
            replace HM := (HM.front 0 rfl rfl).drop
            replace HM := (HM.front 0 rfl rfl).drop
            replace HM := (HM.front 0 rfl rfl).drop
            have hR := Option.some.inj H
            subst hR
            exact at_ret1 rfl rfl ⟨_, rfl, rfl, HM⟩
end Go.Proofs.Ytoiacoiccpiciaa.Zk
