/- What functions of the program compute, each as a plain function, and that they do. Conditions: as each theorem states them. -/
import Derived.Test.YtcpacdbdehphkaaDoorParseRuleZkF2
namespace Go.Proofs.YtcpacdbdehphkaaDoor.Zk
open Go Go.RowKit Go.IntWalk Go.Proofs
set_option linter.unusedVariables false
set_option linter.unusedSimpArgs false
set_option maxRecDepth 100000
set_option maxHeartbeats 4000000
def laws_eqRuleResult.f (k : Nat) (x0 : RuleResult) (x1 : RuleResult) : Option Bool := (bif (x0.fCode != x1.fCode) then some false else ((laws_eqRule.f k x0.fRule x1.fRule).bind fun t1516 => (bif !t1516 then some false else some true)))
theorem laws_eqRuleResult.calls {k : Nat} {x0 : RuleResult} {x1 : RuleResult} {p0_0 : Value} {p1_0 : Value} {w : World} (hp0_0 : RdS kInt w p0_0 x0.fRule.fKeys) (hp1_0 : RdS kInt w p1_0 x1.fRule.fKeys) {r : Bool} (H : laws_eqRuleResult.f k x0 x1 = some r) :
    Calls Tryd.prog 14 ([.agg #[(.int .i64 x0.fCode), p0_0, (.int .i64 x0.fRule.fNeed), (.int .i64 x0.fRule.fAfter)], .agg #[(.int .i64 x1.fCode), p1_0, (.int .i64 x1.fRule.fNeed), (.int .i64 x1.fRule.fAfter)]] : List Value).toArray w (fun e w_ => ∃ v, e = .returned v ∧ v = (.bool r) ∧ Mem w [] w_ []) := by
  have HM := Mem.start w
  refine calls_run (N := 16) Tryd.func14 rfl rfl rfl rfl ?_
  unfold laws_eqRuleResult.f at H
  refine run_seq ?_
  refine run_region rfl ?_
  refine ops_does rfl (guard_none rfl) rfl rfl (does_box (cs := [.int .i64 x0.fCode, p0_0, .int .i64 x0.fRule.fNeed, .int .i64 x0.fRule.fAfter]) rfl rfl rfl HM) ?_
  rintro _ w1512 ⟨b1506, rfl, HM⟩
  refine ops_does rfl (guard_none rfl) rfl rfl (does_box (cs := [.int .i64 x1.fCode, p1_0, .int .i64 x1.fRule.fNeed, .int .i64 x1.fRule.fAfter]) rfl rfl rfl HM) ?_
  rintro _ w1513 ⟨b1509, rfl, HM⟩
  refine ops_ex rfl (guard_none rfl) rfl rfl (ex_assign rfl rfl) ?_
  refine ops_nil ?_
  refine at_then ?_
  refine run_seq ?_
  refine run_seq ?_
  refine run_region rfl ?_
  refine ops_ex rfl (guard_none rfl) rfl rfl (ex_fieldAddr (off' := 0) rfl rfl Tryd.underlying42 rfl tsz2 rfl) ?_
  refine ops_ex rfl (guard_none rfl) rfl rfl (ex_load1 rfl rfl Tryd.underlying2 rfl ((HM.box_at 1 rfl) 0 _ rfl)) ?_
  refine ops_ex rfl (guard_none rfl) rfl rfl (ex_fieldAddr (off' := 0) rfl rfl Tryd.underlying42 rfl tsz2 rfl) ?_
  refine ops_ex rfl (guard_none rfl) rfl rfl (ex_load1 rfl rfl Tryd.underlying2 rfl ((HM.box_at 0 rfl) 0 _ rfl)) ?_
  refine ops_ex rfl (guard_none rfl) rfl rfl (ex_neq rfl rfl rfl) ?_
  refine ops_nil ?_
  refine at_then ?_
  refine run_cond (b := (x0.fCode != x1.fCode)) rfl (fun hb1515 => ?_) (fun hb1515 => ?_)
  · replace H := cond_t hb1515 H
    refine run_seq ?_
    refine run_region rfl ?_
    refine ops_ex rfl (guard_none rfl) rfl rfl (ex_assign rfl rfl) ?_
    refine ops_nil ?_
    refine at_then ?_
    refine run_ret ?_
    refine at_then_ret ?_
    replace HM := (HM.front 0 rfl rfl).drop
    replace HM := (HM.front 0 rfl rfl).drop
    have hR := Option.some.inj H
    subst hR
    exact at_ret1 rfl rfl ⟨_, rfl, rfl, HM⟩
  · replace H := cond_f hb1515 H
    refine run_skip ?_
    refine at_then ?_
    refine run_seq ?_
    refine run_seq ?_
    obtain ⟨t1516, h1517, H⟩ := bind_some H
    refine run_region rfl ?_
    refine ops_ex rfl (guard_none rfl) rfl rfl (ex_fieldAddr (off' := 1) rfl rfl Tryd.underlying42 rfl tsz40 rfl) ?_
    refine ops_ex rfl (guard_none rfl) rfl rfl (ex_loadN (cs := [p0_0, (.int .i64 x0.fRule.fNeed), (.int .i64 x0.fRule.fAfter)]) rfl rfl Tryd.underlying40 rfl tsz40 rfl ((HM.box_at 1 rfl).sub 1 3 rfl)) ?_
    refine ops_ex rfl (guard_none rfl) rfl rfl (ex_fieldAddr (off' := 1) rfl rfl Tryd.underlying42 rfl tsz40 rfl) ?_
    refine ops_ex rfl (guard_none rfl) rfl rfl (ex_loadN (cs := [p1_0, (.int .i64 x1.fRule.fNeed), (.int .i64 x1.fRule.fAfter)]) rfl rfl Tryd.underlying40 rfl tsz40 rfl ((HM.box_at 0 rfl).sub 1 3 rfl)) ?_
    refine ops_does rfl (guard_none rfl) rfl rfl (does_callk rfl callok41 rfl (laws_eqRule.calls (x0 := x0.fRule) (x1 := x1.fRule) (HM.rd hp0_0) (HM.rd hp1_0) h1517)) ?_
    rintro _ w1518 ⟨rfl, hn⟩
    replace HM : Mem w [] w1518 [box b1509 42 [.int .i64 x1.fCode, p1_0, .int .i64 x1.fRule.fNeed, .int .i64 x1.fRule.fAfter], box b1506 42 [.int .i64 x0.fCode, p0_0, .int .i64 x0.fRule.fNeed, .int .i64 x0.fRule.fAfter]] := HM.call hn
    refine ops_ex rfl (guard_none rfl) rfl rfl (ex_not rfl rfl) ?_
    refine ops_nil ?_
    refine at_then ?_
    refine run_cond (b := !t1516) rfl (fun hb1519 => ?_) (fun hb1519 => ?_)
    · replace H := cond_t hb1519 H
      refine run_seq ?_
      refine run_region rfl ?_
      refine ops_ex rfl (guard_none rfl) rfl rfl (ex_assign rfl rfl) ?_
      refine ops_nil ?_
      refine at_then ?_
      refine run_ret ?_
      refine at_then_ret ?_
      replace HM := (HM.front 0 rfl rfl).drop
      replace HM := (HM.front 0 rfl rfl).drop
      have hR := Option.some.inj H
      subst hR
      exact at_ret1 rfl rfl ⟨_, rfl, rfl, HM⟩
    · replace H := cond_f hb1519 H
      refine run_skip ?_
      refine at_then ?_
      refine run_seq ?_
      refine run_region rfl ?_
      refine ops_ex rfl (guard_none rfl) rfl rfl (ex_assign rfl rfl) ?_
      refine ops_nil ?_
      refine at_then ?_
      refine run_ret ?_
      replace HM := (HM.front 0 rfl rfl).drop
      replace HM := (HM.front 0 rfl rfl).drop
      have hR := Option.some.inj H
      subst hR
      exact at_ret1 rfl rfl ⟨_, rfl, rfl, HM⟩

def laws_markInt64S.l0  : Nat → (List Int) → Int → Int → Option ((List Int) × Int)
  | 0, _, _, _ => none
  | k + 1, a1568, a1570, a1571 => (bif (decide (a1571 < (a1568.length : Int))) then (chk (idxOk a1571 a1568.length) (laws_markInt64S.l0 k (a1568.set (a1571).toNat a1570) (wrap64 (a1570 + 1)) (wrap64 (a1571 + 1)))) else some (a1568, a1570))
theorem laws_markInt64S.l0_z  (a1568 : List Int) (a1570 : Int) (a1571 : Int) : laws_markInt64S.l0 0 a1568 a1570 a1571 = none := rfl
theorem laws_markInt64S.l0_s  (k : Nat) (a1568 : List Int) (a1570 : Int) (a1571 : Int) : laws_markInt64S.l0 (k + 1) a1568 a1570 a1571 = (bif (decide (a1571 < (a1568.length : Int))) then (chk (idxOk a1571 a1568.length) (laws_markInt64S.l0 k (a1568.set (a1571).toNat a1570) (wrap64 (a1570 + 1)) (wrap64 (a1571 + 1)))) else some (a1568, a1570)) := rfl
def laws_markInt64S.f (k : Nat) (x0 : List Int) (x1 : Int) : Option (Int × (List Int)) := ((laws_markInt64S.l0 k x0 x1 0).bind (cur2 (fun a1561 a1563 => some (a1563, a1561))))
theorem laws_markInt64S.calls {k : Nat} {x0 : List Int} {x1 : Int} {p0 : Value} {w wo : World} {X : List Nat} (hwo : Olds wo w X) (hX : Hold w [own kInt 2 p0 x0] X) (hXn : X.Nodup) (hXl : ∀ b ∈ X, b < w.heap.size)  {r : Int × (List Int)} (H : laws_markInt64S.f k x0 x1 = some r) :
    Calls Tryd.prog 89 ([p0, .int .i64 x1] : List Value).toArray w (fun e w_ => ∃ v, e = .returned v ∧ v = (.int .i64 r.1) ∧ Mem w X w_ [own kInt 2 p0 r.2]) := by
  have HM := Mem.startX hX hXn hXl
  refine calls_run (N := 19) Tryd.func89 rfl rfl rfl rfl ?_
  unfold laws_markInt64S.f at H
  refine run_seq ?_
  refine run_region rfl ?_
  refine ops_ex rfl (guard_none rfl) rfl rfl (ex_assign rfl rfl) ?_
  refine ops_nil ?_
  refine at_then ?_
  obtain ⟨o1564, ho1565, H⟩ := bind_some H
  refine run_mid (fun ρ_ w_ => ∃ a1561 : List Int, ∃ a1563 : Int, (a1561, a1563) = o1564 ∧ ρ_ = [(1, .int .i64 a1563)] ∧ Mem w X w_ [own kInt 2 p0 a1561]) ?_ ?_
  · clear H
    refine run_seq ?_
    refine run_region rfl ?_
    refine ops_ex rfl (guard_none rfl) rfl rfl (ex_assign rfl rfl) ?_
    refine ops_nil ?_
    refine at_then ?_
    refine run_block ?_
    refine run_loop (fun k_ ρ_ w_ => ∃ a1568 : List Int, ∃ a1570 : Int, ∃ a1571 : Int, laws_markInt64S.l0 k_ a1568 a1570 a1571 = some o1564 ∧ ρ_ = [(0, p0), (1, .int .i64 a1570), (5, .int .i64 a1571)] ∧ Mem w X w_ [own kInt 2 p0 a1568]) k (ρ1 := [(0, p0), (1, .int .i64 x1), (5, .int .i64 0)]) ⟨_, _, _, ho1565, rfl, HM⟩ (Sub.cons rfl (Sub.cons rfl (Sub.cons rfl Sub.nil))) ?_
    clear HM ho1565
    rintro k1574 _ w1575 ⟨a1568, a1570, a1571, ho1565, rfl, HM⟩
    obtain _ | k1574 := k1574
    · exact nomatch ((laws_markInt64S.l0_z a1568 a1570 a1571).symm.trans ho1565)
    replace ho1565 := (laws_markInt64S.l0_s k1574 a1568 a1570 a1571).symm.trans ho1565
    refine run_seq ?_
    refine run_seq ?_
    refine run_region rfl ?_
    refine ops_ex rfl (guard_none rfl) rfl rfl (ex_move rfl rfl) ?_
    refine ops_ex rfl (guard_none rfl) rfl rfl (ex_move rfl rfl) ?_
    refine ops_ex rfl (guard_none rfl) rfl rfl (ex_len (d := kInt) (xs := a1568) rfl rfl Tryd.underlying38 (HM.own_rd 0 rfl)) ?_
    refine ops_ex rfl (guard_none rfl) rfl rfl (ex_lss rfl rfl rfl) ?_
    refine ops_nil ?_
    refine at_then ?_
    refine run_cond (b := (decide (a1571 < (a1568.length : Int)))) rfl (fun hb1576 => ?_) (fun hb1576 => ?_)
    · replace ho1565 := cond_t hb1576 ho1565
      refine run_skip ?_
      refine at_then ?_
      refine run_seq ?_
      refine run_block ?_
      refine run_seq ?_
      obtain ⟨e1577, ho1565⟩ := chk_some ho1565
      refine run_region rfl ?_
      refine ops_ex rfl (guard_none rfl) rfl rfl (ex_move rfl rfl) ?_
      refine ops_ex rfl (guard_none rfl) rfl rfl (ex_move rfl rfl) ?_
      refine ops_ex rfl (guard_none rfl) rfl rfl (ex_move rfl rfl) ?_
      refine ops_ex rfl (guard_none rfl) rfl rfl (ex_indexAddr (d := kInt) rfl rfl rfl Tryd.underlying38 tsz2 (HM.own_rd 0 rfl) (idx_lo e1577) (idx_hi e1577)) ?_
      refine ops_doesS rfl (guard_none rfl) rfl (does_setElem (vs := [(.int .i64 a1570)]) (y := a1570) kInt rfl rfl rfl rfl rfl tsz2 rfl rfl (idx_nat e1577) (fun _ _ h => ⟨rfl, h⟩) (HM.emp.front 1 rfl rfl)) ?_
      rintro w1578 HM
      refine ops_nil ?_
      refine at_then ?_
      refine run_region rfl ?_
      refine ops_ex rfl (guard_none rfl) rfl rfl (ex_move rfl rfl) ?_
      refine ops_ex rfl (guard_none rfl) rfl rfl (ex_add rfl rfl rfl) ?_
      refine ops_ex rfl (guard_none rfl) rfl rfl (ex_assign rfl rfl) ?_
      refine ops_nil ?_
      refine at_block ?_
      refine at_then ?_
      refine run_region rfl ?_
      refine ops_ex rfl (guard_none rfl) rfl rfl (ex_move rfl rfl) ?_
      refine ops_ex rfl (guard_none rfl) rfl rfl (ex_add rfl rfl rfl) ?_
      refine ops_ex rfl (guard_none rfl) rfl rfl (ex_assign rfl rfl) ?_
      refine ops_nil ?_
      exact at_again k1574 (ρ1 := [(0, p0), (1, .int .i64 (wrap64 (a1570 + 1))), (5, .int .i64 (wrap64 (a1571 + 1)))]) (Nat.lt_succ_self _) ⟨_, _, _, ho1565, rfl, HM⟩ (Sub.cons rfl (Sub.cons rfl (Sub.cons rfl Sub.nil)))
    · replace ho1565 := cond_f hb1576 ho1565
      refine run_exit ?_
      refine at_then_exit ?_
      refine at_then_exit ?_
      refine at_block_exit ?_
      exact at_mid (ρ' := [(1, .int .i64 a1570)]) ⟨_, _, (Option.some.inj ho1565), rfl, HM⟩ (Sub.cons rfl Sub.nil)
  · rintro _ w1579 ⟨a1561, a1563, rfl, rfl, HM⟩
    replace H := cur2_mk H
    refine run_seq ?_
    refine run_region rfl ?_
    refine ops_ex rfl (guard_none rfl) rfl rfl (ex_move rfl rfl) ?_
    refine ops_ex rfl (guard_none rfl) rfl rfl (ex_assign rfl rfl) ?_
    refine ops_nil ?_
    refine at_then ?_
    refine run_ret ?_
    have hR := Option.some.inj H
    subst hR
    exact at_ret1 rfl rfl ⟨_, rfl, rfl, HM⟩

def laws_markRule.f (k : Nat) (x0 : Rule) (x1 : Int) : Option (Int × (List Int)) := ((laws_markInt64S.f k x0.fKeys x1).bind fun t1598 => some (t1598.1, t1598.2))
theorem laws_markRule.calls {k : Nat} {x0 : Rule} {x1 : Int} {p0_0 : Value} {w wo : World} {X : List Nat} (hwo : Olds wo w X) (hX : Hold w [own kInt 2 p0_0 x0.fKeys] X) (hXn : X.Nodup) (hXl : ∀ b ∈ X, b < w.heap.size)  {r : Int × (List Int)} (H : laws_markRule.f k x0 x1 = some r) :
    Calls Tryd.prog 42 ([.agg #[p0_0, (.int .i64 x0.fNeed), (.int .i64 x0.fAfter)], .int .i64 x1] : List Value).toArray w (fun e w_ => ∃ v, e = .returned v ∧ v = (.int .i64 r.1) ∧ Mem w X w_ [own kInt 2 p0_0 r.2]) := by
  have HM := Mem.startX hX hXn hXl
  refine calls_run (N := 10) Tryd.func42 rfl rfl rfl rfl ?_
  unfold laws_markRule.f at H
  refine run_seq ?_
  refine run_region rfl ?_
  refine ops_does rfl (guard_none rfl) rfl rfl (does_box (cs := [p0_0, .int .i64 x0.fNeed, .int .i64 x0.fAfter]) rfl rfl rfl HM) ?_
  rintro _ w1597 ⟨b1594, rfl, HM⟩
  refine ops_ex rfl (guard_none rfl) rfl rfl (ex_assign rfl rfl) ?_
  refine ops_nil ?_
  refine at_then ?_
  refine run_seq ?_
  obtain ⟨t1598, h1599, H⟩ := bind_some H
  refine run_region rfl ?_
  refine ops_ex rfl (guard_none rfl) rfl rfl (ex_fieldAddr (off' := 0) rfl rfl Tryd.underlying40 rfl tsz38 rfl) ?_
  refine ops_ex rfl (guard_none rfl) rfl rfl (ex_load1 rfl rfl Tryd.underlying38 rfl ((HM.box_at 0 rfl) 0 _ rfl)) ?_
  refine ops_ex rfl (guard_none rfl) rfl rfl (ex_move rfl rfl) ?_
  replace HM := HM.front 1 rfl rfl
  obtain ⟨F1600, hF1601, hFn1602, hFl1603, HMh1604, hcl1605⟩ := HM.hide (Ms := [own kInt 2 p0_0 x0.fKeys])
  refine ops_does rfl (guard_none rfl) rfl rfl (does_callk rfl callok89 rfl (laws_markInt64S.calls (x0 := x0.fKeys) (x1 := x1) (hide_olds _ _) hF1601 hFn1602 hFl1603 h1599)) ?_
  rintro _ w1606 ⟨rfl, hn⟩
  replace HM : Mem w X w1606 [own kInt 2 p0_0 t1598.2, box b1594 40 [p0_0, .int .i64 x0.fNeed, .int .i64 x0.fAfter]] := hcl1605 _ _ hn
  refine ops_ex rfl (guard_none rfl) rfl rfl (ex_assign rfl rfl) ?_
  refine ops_nil ?_
  refine at_then ?_
  refine run_seq ?_
  refine run_region rfl ?_
  refine ops_ex rfl (guard_none rfl) rfl rfl (ex_move rfl rfl) ?_
  refine ops_ex rfl (guard_none rfl) rfl rfl (ex_assign rfl rfl) ?_
  refine ops_nil ?_
  refine at_then ?_
  refine run_ret ?_
  replace HM := (HM.front 1 rfl rfl).drop
  have hR := Option.some.inj H
  subst hR
  exact at_ret1 rfl rfl ⟨_, rfl, rfl, HM⟩

def laws_markRuleResult.f (k : Nat) (x0 : RuleResult) (x1 : Int) : Option (Int × (List Int)) := ((laws_markRule.f k x0.fRule x1).bind fun t1625 => some (t1625.1, t1625.2))
theorem laws_markRuleResult.calls {k : Nat} {x0 : RuleResult} {x1 : Int} {p0_0 : Value} {w wo : World} {X : List Nat} (hwo : Olds wo w X) (hX : Hold w [own kInt 2 p0_0 x0.fRule.fKeys] X) (hXn : X.Nodup) (hXl : ∀ b ∈ X, b < w.heap.size)  {r : Int × (List Int)} (H : laws_markRuleResult.f k x0 x1 = some r) :
    Calls Tryd.prog 15 ([.agg #[(.int .i64 x0.fCode), p0_0, (.int .i64 x0.fRule.fNeed), (.int .i64 x0.fRule.fAfter)], .int .i64 x1] : List Value).toArray w (fun e w_ => ∃ v, e = .returned v ∧ v = (.int .i64 r.1) ∧ Mem w X w_ [own kInt 2 p0_0 r.2]) := by
  have HM := Mem.startX hX hXn hXl
  refine calls_run (N := 10) Tryd.func15 rfl rfl rfl rfl ?_
  unfold laws_markRuleResult.f at H
  refine run_seq ?_
  refine run_region rfl ?_
  refine ops_does rfl (guard_none rfl) rfl rfl (does_box (cs := [.int .i64 x0.fCode, p0_0, .int .i64 x0.fRule.fNeed, .int .i64 x0.fRule.fAfter]) rfl rfl rfl HM) ?_
  rintro _ w1624 ⟨b1621, rfl, HM⟩
  refine ops_ex rfl (guard_none rfl) rfl rfl (ex_assign rfl rfl) ?_
  refine ops_nil ?_
  refine at_then ?_
  refine run_seq ?_
  obtain ⟨t1625, h1626, H⟩ := bind_some H
  refine run_region rfl ?_
  refine ops_ex rfl (guard_none rfl) rfl rfl (ex_fieldAddr (off' := 1) rfl rfl Tryd.underlying42 rfl tsz40 rfl) ?_
  refine ops_ex rfl (guard_none rfl) rfl rfl (ex_loadN (cs := [p0_0, (.int .i64 x0.fRule.fNeed), (.int .i64 x0.fRule.fAfter)]) rfl rfl Tryd.underlying40 rfl tsz40 rfl ((HM.box_at 0 rfl).sub 1 3 rfl)) ?_
  refine ops_ex rfl (guard_none rfl) rfl rfl (ex_move rfl rfl) ?_
  replace HM := HM.front 1 rfl rfl
  obtain ⟨F1627, hF1628, hFn1629, hFl1630, HMh1631, hcl1632⟩ := HM.hide (Ms := [own kInt 2 p0_0 x0.fRule.fKeys])
  refine ops_does rfl (guard_none rfl) rfl rfl (does_callk rfl callok42 rfl (laws_markRule.calls (x0 := x0.fRule) (x1 := x1) (hide_olds _ _) hF1628 hFn1629 hFl1630 h1626)) ?_
  rintro _ w1633 ⟨rfl, hn⟩
  replace HM : Mem w X w1633 [own kInt 2 p0_0 t1625.2, box b1621 42 [.int .i64 x0.fCode, p0_0, .int .i64 x0.fRule.fNeed, .int .i64 x0.fRule.fAfter]] := hcl1632 _ _ hn
  refine ops_ex rfl (guard_none rfl) rfl rfl (ex_assign rfl rfl) ?_
  refine ops_nil ?_
  refine at_then ?_
  refine run_seq ?_
  refine run_region rfl ?_
  refine ops_ex rfl (guard_none rfl) rfl rfl (ex_move rfl rfl) ?_
  refine ops_ex rfl (guard_none rfl) rfl rfl (ex_assign rfl rfl) ?_
  refine ops_nil ?_
  refine at_then ?_
  refine run_ret ?_
  replace HM := (HM.front 1 rfl rfl).drop
  have hR := Option.some.inj H
  subst hR
  exact at_ret1 rfl rfl ⟨_, rfl, rfl, HM⟩

def laws_heldInt64S.l0 (x0 : List Int) : Nat → Int → Int → Option (Int ⊕ Int)
  | 0, _, _ => none
  | k + 1, a1686, a1687 => (bif (decide (a1687 < (x0.length : Int))) then (chk (idxOk a1687 x0.length) (bif ((gt x0 a1687) != a1686) then some (.inl (-1)) else laws_heldInt64S.l0 x0 k (wrap64 (a1686 + 1)) (wrap64 (a1687 + 1)))) else some (.inr a1686))
theorem laws_heldInt64S.l0_z (x0 : List Int) (a1686 : Int) (a1687 : Int) : laws_heldInt64S.l0 x0 0 a1686 a1687 = none := rfl
theorem laws_heldInt64S.l0_s (x0 : List Int) (k : Nat) (a1686 : Int) (a1687 : Int) : laws_heldInt64S.l0 x0 (k + 1) a1686 a1687 = (bif (decide (a1687 < (x0.length : Int))) then (chk (idxOk a1687 x0.length) (bif ((gt x0 a1687) != a1686) then some (.inl (-1)) else laws_heldInt64S.l0 x0 k (wrap64 (a1686 + 1)) (wrap64 (a1687 + 1)))) else some (.inr a1686)) := rfl
def laws_heldInt64S.f (k : Nat) (x0 : List Int) (x1 : Int) : Option Int := ((laws_heldInt64S.l0 x0 k x1 0).bind fun o1680 => thn o1680 (fun r => some r) (fun a1679 => some a1679))
theorem laws_heldInt64S.calls {k : Nat} {x0 : List Int} {x1 : Int} {p0 : Value} {w : World} (hp0 : RdS kInt w p0 x0) {r : Int} (H : laws_heldInt64S.f k x0 x1 = some r) :
    Calls Tryd.prog 90 ([p0, .int .i64 x1] : List Value).toArray w (fun e w_ => ∃ v, e = .returned v ∧ v = (.int .i64 r) ∧ Mem w [] w_ []) := by
  have HM := Mem.start w
  refine calls_run (N := 21) Tryd.func90 rfl rfl rfl rfl ?_
  unfold laws_heldInt64S.f at H
  refine run_seq ?_
  refine run_region rfl ?_
  refine ops_ex rfl (guard_none rfl) rfl rfl (ex_assign rfl rfl) ?_
  refine ops_nil ?_
  refine at_then ?_
  obtain ⟨o1680, ho1681, H⟩ := bind_some H
  refine run_mid (fun ρ_ w_ => ∃ a1679 : Int, Sum.inr a1679 = o1680 ∧ ρ_ = [(1, .int .i64 a1679)] ∧ Mem w [] w_ []) ?_ ?_
  · skip
    refine run_seq ?_
    refine run_region rfl ?_
    refine ops_ex rfl (guard_none rfl) rfl rfl (ex_assign rfl rfl) ?_
    refine ops_nil ?_
    refine at_then ?_
    refine run_block ?_
    refine run_loop (fun k_ ρ_ w_ => ∃ a1686 : Int, ∃ a1687 : Int, laws_heldInt64S.l0 x0 k_ a1686 a1687 = some o1680 ∧ ρ_ = [(0, p0), (1, .int .i64 a1686), (5, .int .i64 a1687)] ∧ Mem w [] w_ []) k (ρ1 := [(0, p0), (1, .int .i64 x1), (5, .int .i64 0)]) ⟨_, _, ho1681, rfl, HM⟩ (Sub.cons rfl (Sub.cons rfl (Sub.cons rfl Sub.nil))) ?_
    clear HM ho1681
    rintro k1692 _ w1693 ⟨a1686, a1687, ho1681, rfl, HM⟩
    obtain _ | k1692 := k1692
    · exact nomatch ((laws_heldInt64S.l0_z x0 a1686 a1687).symm.trans ho1681)
    replace ho1681 := (laws_heldInt64S.l0_s x0 k1692 a1686 a1687).symm.trans ho1681
    refine run_seq ?_
    refine run_seq ?_
    refine run_region rfl ?_
    refine ops_ex rfl (guard_none rfl) rfl rfl (ex_move rfl rfl) ?_
    refine ops_ex rfl (guard_none rfl) rfl rfl (ex_move rfl rfl) ?_
    refine ops_ex rfl (guard_none rfl) rfl rfl (ex_len (d := kInt) (xs := x0) rfl rfl Tryd.underlying38 hp0) ?_
    refine ops_ex rfl (guard_none rfl) rfl rfl (ex_lss rfl rfl rfl) ?_
    refine ops_nil ?_
    refine at_then ?_
    refine run_cond (b := (decide (a1687 < (x0.length : Int)))) rfl (fun hb1694 => ?_) (fun hb1694 => ?_)
    · replace ho1681 := cond_t hb1694 ho1681
      refine run_skip ?_
      refine at_then ?_
      refine run_seq ?_
      refine run_block ?_
      refine run_seq ?_
      refine run_seq ?_
      obtain ⟨e1695, ho1681⟩ := chk_some ho1681
      refine run_region rfl ?_
      refine ops_ex rfl (guard_none rfl) rfl rfl (ex_move rfl rfl) ?_
      refine ops_ex rfl (guard_none rfl) rfl rfl (ex_move rfl rfl) ?_
      have hc1696 : CellsAt _ (sb p0) (so p0 + (a1687).toNat * 1) [(.int .i64 (gt x0 a1687))] := rd_plain hp0 e1695
      refine ops_ex rfl (guard_none rfl) rfl rfl (ex_indexAddr (d := kInt) rfl rfl rfl Tryd.underlying38 tsz2 hp0 (idx_lo e1695) (idx_hi e1695)) ?_
      refine ops_ex rfl (guard_none rfl) rfl rfl (ex_load1 rfl rfl Tryd.underlying2 rfl ((HM.at_ hc1696) 0 _ rfl)) ?_
      refine ops_ex rfl (guard_none rfl) rfl rfl (ex_move rfl rfl) ?_
      refine ops_ex rfl (guard_none rfl) rfl rfl (ex_neq rfl rfl rfl) ?_
      refine ops_nil ?_
      refine at_then ?_
      refine run_cond (b := ((gt x0 a1687) != a1686)) rfl (fun hb1697 => ?_) (fun hb1697 => ?_)
      · replace ho1681 := cond_t hb1697 ho1681
        refine run_seq ?_
        refine run_region rfl ?_
        refine ops_ex rfl (guard_none rfl) rfl rfl (ex_assign rfl rfl) ?_
        refine ops_nil ?_
        refine at_then ?_
        refine run_ret ?_
        refine at_then_ret ?_
        refine at_block_ret ?_
        refine at_then_ret ?_
        refine at_then_ret ?_
        refine at_block_ret ?_
        refine at_then_ret ?_
        have hR := Option.some.inj ho1681
        subst hR
        have hT := thn_inl H
        have hR := Option.some.inj hT
        subst hR
        exact at_ret1 rfl rfl ⟨_, rfl, rfl, HM⟩
      · replace ho1681 := cond_f hb1697 ho1681
        refine run_skip ?_
        refine at_then ?_
        refine run_region rfl ?_
        refine ops_ex rfl (guard_none rfl) rfl rfl (ex_move rfl rfl) ?_
        refine ops_ex rfl (guard_none rfl) rfl rfl (ex_add rfl rfl rfl) ?_
        refine ops_ex rfl (guard_none rfl) rfl rfl (ex_assign rfl rfl) ?_
        refine ops_nil ?_
        refine at_block ?_
        refine at_then ?_
        refine run_region rfl ?_
        refine ops_ex rfl (guard_none rfl) rfl rfl (ex_move rfl rfl) ?_
        refine ops_ex rfl (guard_none rfl) rfl rfl (ex_add rfl rfl rfl) ?_
        refine ops_ex rfl (guard_none rfl) rfl rfl (ex_assign rfl rfl) ?_
        refine ops_nil ?_
        exact at_again k1692 (ρ1 := [(0, p0), (1, .int .i64 (wrap64 (a1686 + 1))), (5, .int .i64 (wrap64 (a1687 + 1)))]) (Nat.lt_succ_self _) ⟨_, _, ho1681, rfl, HM⟩ (Sub.cons rfl (Sub.cons rfl (Sub.cons rfl Sub.nil)))
    · replace ho1681 := cond_f hb1694 ho1681
      refine run_exit ?_
      refine at_then_exit ?_
      refine at_then_exit ?_
      refine at_block_exit ?_
      exact at_mid (ρ' := [(1, .int .i64 a1686)]) ⟨_, (Option.some.inj ho1681), rfl, HM⟩ (Sub.cons rfl Sub.nil)
  · rintro _ w1698 ⟨a1679, rfl, rfl, HM⟩
    replace H := (thn_inr H)
    refine run_seq ?_
    refine run_region rfl ?_
    refine ops_ex rfl (guard_none rfl) rfl rfl (ex_move rfl rfl) ?_
    refine ops_ex rfl (guard_none rfl) rfl rfl (ex_assign rfl rfl) ?_
    refine ops_nil ?_
    refine at_then ?_
    refine run_ret ?_
    have hR := Option.some.inj H
    subst hR
    exact at_ret1 rfl rfl ⟨_, rfl, rfl, HM⟩

def laws_heldRule.f (k : Nat) (x0 : Rule) (x1 : Int) : Option Int := ((laws_heldInt64S.f k x0.fKeys x1).bind fun t1706 => (bif (decide (t1706 < 0)) then some (-1) else some t1706))
theorem laws_heldRule.calls {k : Nat} {x0 : Rule} {x1 : Int} {p0_0 : Value} {w : World} (hp0_0 : RdS kInt w p0_0 x0.fKeys) {r : Int} (H : laws_heldRule.f k x0 x1 = some r) :
    Calls Tryd.prog 43 ([.agg #[p0_0, (.int .i64 x0.fNeed), (.int .i64 x0.fAfter)], .int .i64 x1] : List Value).toArray w (fun e w_ => ∃ v, e = .returned v ∧ v = (.int .i64 r) ∧ Mem w [] w_ []) := by
  have HM := Mem.start w
  refine calls_run (N := 12) Tryd.func43 rfl rfl rfl rfl ?_
  unfold laws_heldRule.f at H
  refine run_seq ?_
  refine run_region rfl ?_
  refine ops_does rfl (guard_none rfl) rfl rfl (does_box (cs := [p0_0, .int .i64 x0.fNeed, .int .i64 x0.fAfter]) rfl rfl rfl HM) ?_
  rintro _ w1705 ⟨b1702, rfl, HM⟩
  refine ops_ex rfl (guard_none rfl) rfl rfl (ex_assign rfl rfl) ?_
  refine ops_nil ?_
  refine at_then ?_
  refine run_seq ?_
  obtain ⟨t1706, h1707, H⟩ := bind_some H
  refine run_region rfl ?_
  refine ops_ex rfl (guard_none rfl) rfl rfl (ex_fieldAddr (off' := 0) rfl rfl Tryd.underlying40 rfl tsz38 rfl) ?_
  refine ops_ex rfl (guard_none rfl) rfl rfl (ex_load1 rfl rfl Tryd.underlying38 rfl ((HM.box_at 0 rfl) 0 _ rfl)) ?_
  refine ops_ex rfl (guard_none rfl) rfl rfl (ex_move rfl rfl) ?_
  refine ops_does rfl (guard_none rfl) rfl rfl (does_callk rfl callok90 rfl (laws_heldInt64S.calls (x0 := x0.fKeys) (x1 := x1) (HM.rd hp0_0) h1707)) ?_
  rintro _ w1708 ⟨rfl, hn⟩
  replace HM : Mem w [] w1708 [box b1702 40 [p0_0, .int .i64 x0.fNeed, .int .i64 x0.fAfter]] := HM.call hn
  refine ops_ex rfl (guard_none rfl) rfl rfl (ex_assign rfl rfl) ?_
  refine ops_nil ?_
  refine at_then ?_
  refine run_seq ?_
  refine run_seq ?_
  refine run_region rfl ?_
  refine ops_ex rfl (guard_none rfl) rfl rfl (ex_move rfl rfl) ?_
  refine ops_ex rfl (guard_none rfl) rfl rfl (ex_lss rfl rfl rfl) ?_
  refine ops_nil ?_
  refine at_then ?_
  refine run_cond (b := (decide (t1706 < 0))) rfl (fun hb1709 => ?_) (fun hb1709 => ?_)
  · replace H := cond_t hb1709 H
    refine run_seq ?_
    refine run_region rfl ?_
    refine ops_ex rfl (guard_none rfl) rfl rfl (ex_assign rfl rfl) ?_
    refine ops_nil ?_
    refine at_then ?_
    refine run_ret ?_
    refine at_then_ret ?_
    replace HM := (HM.front 0 rfl rfl).drop
    have hR := Option.some.inj H
    subst hR
    exact at_ret1 rfl rfl ⟨_, rfl, rfl, HM⟩
  · replace H := cond_f hb1709 H
    refine run_skip ?_
    refine at_then ?_
    refine run_seq ?_
    refine run_region rfl ?_
    refine ops_ex rfl (guard_none rfl) rfl rfl (ex_move rfl rfl) ?_
    refine ops_ex rfl (guard_none rfl) rfl rfl (ex_assign rfl rfl) ?_
    refine ops_nil ?_
    refine at_then ?_
    refine run_ret ?_
    replace HM := (HM.front 0 rfl rfl).drop
    have hR := Option.some.inj H
    subst hR
    exact at_ret1 rfl rfl ⟨_, rfl, rfl, HM⟩

def laws_heldRuleResult.f (k : Nat) (x0 : RuleResult) (x1 : Int) : Option Int := ((laws_heldRule.f k x0.fRule x1).bind fun t1717 => (bif (decide (t1717 < 0)) then some (-1) else some t1717))
theorem laws_heldRuleResult.calls {k : Nat} {x0 : RuleResult} {x1 : Int} {p0_0 : Value} {w : World} (hp0_0 : RdS kInt w p0_0 x0.fRule.fKeys) {r : Int} (H : laws_heldRuleResult.f k x0 x1 = some r) :
    Calls Tryd.prog 16 ([.agg #[(.int .i64 x0.fCode), p0_0, (.int .i64 x0.fRule.fNeed), (.int .i64 x0.fRule.fAfter)], .int .i64 x1] : List Value).toArray w (fun e w_ => ∃ v, e = .returned v ∧ v = (.int .i64 r) ∧ Mem w [] w_ []) := by
  have HM := Mem.start w
  refine calls_run (N := 12) Tryd.func16 rfl rfl rfl rfl ?_
  unfold laws_heldRuleResult.f at H
  refine run_seq ?_
  refine run_region rfl ?_
  refine ops_does rfl (guard_none rfl) rfl rfl (does_box (cs := [.int .i64 x0.fCode, p0_0, .int .i64 x0.fRule.fNeed, .int .i64 x0.fRule.fAfter]) rfl rfl rfl HM) ?_
  rintro _ w1716 ⟨b1713, rfl, HM⟩
  refine ops_ex rfl (guard_none rfl) rfl rfl (ex_assign rfl rfl) ?_
  refine ops_nil ?_
  refine at_then ?_
  refine run_seq ?_
  obtain ⟨t1717, h1718, H⟩ := bind_some H
  refine run_region rfl ?_
  refine ops_ex rfl (guard_none rfl) rfl rfl (ex_fieldAddr (off' := 1) rfl rfl Tryd.underlying42 rfl tsz40 rfl) ?_
  refine ops_ex rfl (guard_none rfl) rfl rfl (ex_loadN (cs := [p0_0, (.int .i64 x0.fRule.fNeed), (.int .i64 x0.fRule.fAfter)]) rfl rfl Tryd.underlying40 rfl tsz40 rfl ((HM.box_at 0 rfl).sub 1 3 rfl)) ?_
  refine ops_ex rfl (guard_none rfl) rfl rfl (ex_move rfl rfl) ?_
  refine ops_does rfl (guard_none rfl) rfl rfl (does_callk rfl callok43 rfl (laws_heldRule.calls (x0 := x0.fRule) (x1 := x1) (HM.rd hp0_0) h1718)) ?_
  rintro _ w1719 ⟨rfl, hn⟩
  replace HM : Mem w [] w1719 [box b1713 42 [.int .i64 x0.fCode, p0_0, .int .i64 x0.fRule.fNeed, .int .i64 x0.fRule.fAfter]] := HM.call hn
  refine ops_ex rfl (guard_none rfl) rfl rfl (ex_assign rfl rfl) ?_
  refine ops_nil ?_
  refine at_then ?_
  refine run_seq ?_
  refine run_seq ?_
  refine run_region rfl ?_
  refine ops_ex rfl (guard_none rfl) rfl rfl (ex_move rfl rfl) ?_
  refine ops_ex rfl (guard_none rfl) rfl rfl (ex_lss rfl rfl rfl) ?_
  refine ops_nil ?_
  refine at_then ?_
  refine run_cond (b := (decide (t1717 < 0))) rfl (fun hb1720 => ?_) (fun hb1720 => ?_)
  · replace H := cond_t hb1720 H
    refine run_seq ?_
    refine run_region rfl ?_
    refine ops_ex rfl (guard_none rfl) rfl rfl (ex_assign rfl rfl) ?_
    refine ops_nil ?_
    refine at_then ?_
    refine run_ret ?_
    refine at_then_ret ?_
    replace HM := (HM.front 0 rfl rfl).drop
    have hR := Option.some.inj H
    subst hR
    exact at_ret1 rfl rfl ⟨_, rfl, rfl, HM⟩
  · replace H := cond_f hb1720 H
    refine run_skip ?_
    refine at_then ?_
    refine run_seq ?_
    refine run_region rfl ?_
    refine ops_ex rfl (guard_none rfl) rfl rfl (ex_move rfl rfl) ?_
    refine ops_ex rfl (guard_none rfl) rfl rfl (ex_assign rfl rfl) ?_
    refine ops_nil ?_
    refine at_then ?_
    refine run_ret ?_
    replace HM := (HM.front 0 rfl rfl).drop
    have hR := Option.some.inj H
    subst hR
    exact at_ret1 rfl rfl ⟨_, rfl, rfl, HM⟩

def laws_FnExactParseRule.f (k : Nat) (x0 : ByteArray) : Option Bool := (bif (decide (1048576 < (x0.size : Int))) then some true else ((spec_ParseRule.f k x0).bind fun t1747 => ((impl_ParseRule.f k x0).bind fun t1757 => ((laws_eqRuleResult.f k t1757 t1747).bind fun t1770 => (bif !t1770 then some false else ((laws_markRuleResult.f k t1757 1).bind fun t1774 => ((laws_heldRuleResult.f k (⟨t1757.fCode, (⟨t1774.2, t1757.fRule.fNeed, t1757.fRule.fAfter⟩ : Rule)⟩ : RuleResult) 1).bind fun t1783 => (bif (decide (t1783 < 0)) then some false else (bif (t1783 != t1774.1) then some false else ((impl_ParseRule.f k x0).bind fun t1790 => ((laws_eqRuleResult.f k t1790 t1747).bind fun t1803 => (bif !t1803 then some false else ((laws_heldRuleResult.f k (⟨t1757.fCode, (⟨t1774.2, t1757.fRule.fNeed, t1757.fRule.fAfter⟩ : Rule)⟩ : RuleResult) 1).bind fun t1807 => (bif (decide (t1807 < 0)) then some false else (bif (t1807 != t1774.1) then some false else some true)))))))))))))))
theorem laws_FnExactParseRule.calls {k : Nat} {x0 : ByteArray}  {w : World} (htab : TabP w)  {r : Bool} (H : laws_FnExactParseRule.f k x0 = some r) :
    Calls Tryd.prog 4 ([.string x0] : List Value).toArray w (fun e w_ => ∃ v, e = .returned v ∧ v = (.bool r) ∧ Mem w [] w_ []) := by
  have HM := Mem.start w
  refine calls_run (N := 44) Tryd.func4 rfl rfl rfl rfl ?_
  unfold laws_FnExactParseRule.f at H
  refine run_seq ?_
  refine run_region rfl ?_
  refine ops_ex rfl (guard_none rfl) rfl rfl (ex_assign rfl rfl) ?_
  refine ops_nil ?_
  refine at_then ?_
  refine run_seq ?_
  refine run_seq ?_
  refine run_region rfl ?_
  refine ops_ex rfl (guard_none rfl) rfl rfl (ex_move rfl rfl) ?_
  refine ops_ex rfl (guard_none rfl) rfl rfl (ex_strlen rfl rfl Tryd.underlying9) ?_
  refine ops_ex rfl (guard_none rfl) rfl rfl (ex_gtr rfl rfl rfl) ?_
  refine ops_nil ?_
  refine at_then ?_
  refine run_cond (b := (decide (1048576 < (x0.size : Int)))) rfl (fun hb1746 => ?_) (fun hb1746 => ?_)
  · replace H := cond_t hb1746 H
    refine run_seq ?_
    refine run_region rfl ?_
    refine ops_ex rfl (guard_none rfl) rfl rfl (ex_assign rfl rfl) ?_
    refine ops_nil ?_
    refine at_then ?_
    refine run_ret ?_
    refine at_then_ret ?_
    have hR := Option.some.inj H
    subst hR
    exact at_ret1 rfl rfl ⟨_, rfl, rfl, HM⟩
  · replace H := cond_f hb1746 H
    refine run_skip ?_
    refine at_then ?_
    refine run_seq ?_
    obtain ⟨t1747, h1748, H⟩ := bind_some H
    refine run_region rfl ?_
    refine ops_ex rfl (guard_none rfl) rfl rfl (ex_move rfl rfl) ?_
    refine ops_does rfl (guard_none rfl) rfl rfl (does_callk rfl callok12 rfl (spec_ParseRule.calls (x0 := x0) h1748)) ?_
    rintro _ w1754 ⟨u1749, rfl, hn⟩
    replace HM : Mem w [] w1754 [own kInt 2 u1749 t1747.fRule.fKeys] := HM.call hn
    refine ops_does rfl (guard_none rfl) rfl rfl (does_alloc (cs := [.int .i64 0, .slice none 0 0, .int .i64 0, .int .i64 0]) rfl tz42 rfl HM) ?_
    rintro _ w1755 ⟨b1751, rfl, HM⟩
    refine ops_doesS rfl (guard_none rfl) rfl (does_store (vs := [.int .i64 t1747.fCode, u1749, .int .i64 t1747.fRule.fNeed, .int .i64 t1747.fRule.fAfter]) (cs' := [.int .i64 t1747.fCode, u1749, .int .i64 t1747.fRule.fNeed, .int .i64 t1747.fRule.fAfter]) rfl rfl rfl rfl tsz42 (Ones.int (Ones.rd (HM.own_rd 1 rfl) (Ones.int (Ones.int Ones.nil)))) rfl rfl HM) ?_
    rintro w1756 HM
    refine ops_nil ?_
    refine at_then ?_
    refine run_seq ?_
    obtain ⟨t1757, h1758, H⟩ := bind_some H
    refine run_region rfl ?_
    refine ops_ex rfl (guard_none rfl) rfl rfl (ex_move rfl rfl) ?_
    refine ops_does rfl (guard_none rfl) rfl rfl (does_callk rfl callok13 rfl (impl_ParseRule.calls (x0 := x0) (HM.tabP htab) h1758)) ?_
    rintro _ w1764 ⟨u1759, rfl, hn⟩
    replace HM : Mem w [] w1764 [own kInt 2 u1759 t1757.fRule.fKeys, box b1751 42 [.int .i64 t1747.fCode, u1749, .int .i64 t1747.fRule.fNeed, .int .i64 t1747.fRule.fAfter], own kInt 2 u1749 t1747.fRule.fKeys] := HM.call hn
    refine ops_does rfl (guard_none rfl) rfl rfl (does_alloc (cs := [.int .i64 0, .slice none 0 0, .int .i64 0, .int .i64 0]) rfl tz42 rfl HM) ?_
    rintro _ w1765 ⟨b1761, rfl, HM⟩
    refine ops_doesS rfl (guard_none rfl) rfl (does_store (vs := [.int .i64 t1757.fCode, u1759, .int .i64 t1757.fRule.fNeed, .int .i64 t1757.fRule.fAfter]) (cs' := [.int .i64 t1757.fCode, u1759, .int .i64 t1757.fRule.fNeed, .int .i64 t1757.fRule.fAfter]) rfl rfl rfl rfl tsz42 (Ones.int (Ones.rd (HM.own_rd 1 rfl) (Ones.int (Ones.int Ones.nil)))) rfl rfl HM) ?_
    rintro w1766 HM
    refine ops_nil ?_
    refine at_then ?_
    refine run_seq ?_
    refine run_seq ?_
    obtain ⟨t1770, h1771, H⟩ := bind_some H
    refine run_region rfl ?_
    refine ops_ex rfl (guard_none rfl) rfl rfl (ex_loadN (cs := [(.int .i64 t1757.fCode), u1759, (.int .i64 t1757.fRule.fNeed), (.int .i64 t1757.fRule.fAfter)]) rfl rfl Tryd.underlying42 rfl tsz42 rfl ((HM.box_at 0 rfl).sub 0 4 rfl)) ?_
    refine ops_ex rfl (guard_none rfl) rfl rfl (ex_loadN (cs := [(.int .i64 t1747.fCode), u1749, (.int .i64 t1747.fRule.fNeed), (.int .i64 t1747.fRule.fAfter)]) rfl rfl Tryd.underlying42 rfl tsz42 rfl ((HM.box_at 2 rfl).sub 0 4 rfl)) ?_
    refine ops_does rfl (guard_none rfl) rfl rfl (does_callk rfl callok14 rfl (laws_eqRuleResult.calls (x0 := t1757) (x1 := t1747) (HM.own_rd 1 rfl) (HM.own_rd 3 rfl) h1771)) ?_
    rintro _ w1772 ⟨rfl, hn⟩
    replace HM : Mem w [] w1772 [box b1761 42 [.int .i64 t1757.fCode, u1759, .int .i64 t1757.fRule.fNeed, .int .i64 t1757.fRule.fAfter], own kInt 2 u1759 t1757.fRule.fKeys, box b1751 42 [.int .i64 t1747.fCode, u1749, .int .i64 t1747.fRule.fNeed, .int .i64 t1747.fRule.fAfter], own kInt 2 u1749 t1747.fRule.fKeys] := HM.call hn
    refine ops_ex rfl (guard_none rfl) rfl rfl (ex_not rfl rfl) ?_
    refine ops_nil ?_
    refine at_then ?_
    refine run_cond (b := !t1770) rfl (fun hb1773 => ?_) (fun hb1773 => ?_)
    · replace H := cond_t hb1773 H
      refine run_seq ?_
      refine run_region rfl ?_
      refine ops_ex rfl (guard_none rfl) rfl rfl (ex_assign rfl rfl) ?_
      refine ops_nil ?_
      refine at_then ?_
      refine run_ret ?_
      refine at_then_ret ?_
      replace HM := (HM.front 0 rfl rfl).drop
      replace HM := (HM.front 0 rfl rfl).drop
      replace HM := (HM.front 0 rfl rfl).drop
      replace HM := (HM.front 0 rfl rfl).drop
      have hR := Option.some.inj H
      subst hR
      exact at_ret1 rfl rfl ⟨_, rfl, rfl, HM⟩
    · replace H := cond_f hb1773 H
      refine run_skip ?_
      refine at_then ?_
      refine run_seq ?_
      refine run_region rfl ?_
      refine ops_ex rfl (guard_none rfl) rfl rfl (ex_assign rfl rfl) ?_
      refine ops_nil ?_
      refine at_then ?_
      refine run_seq ?_
      obtain ⟨t1774, h1775, H⟩ := bind_some H
      refine run_region rfl ?_
      refine ops_ex rfl (guard_none rfl) rfl rfl (ex_loadN (cs := [(.int .i64 t1757.fCode), u1759, (.int .i64 t1757.fRule.fNeed), (.int .i64 t1757.fRule.fAfter)]) rfl rfl Tryd.underlying42 rfl tsz42 rfl ((HM.box_at 0 rfl).sub 0 4 rfl)) ?_
      refine ops_ex rfl (guard_none rfl) rfl rfl (ex_move rfl rfl) ?_
      replace HM := HM.front 1 rfl rfl
      obtain ⟨F1776, hF1777, hFn1778, hFl1779, HMh1780, hcl1781⟩ := HM.hide (Ms := [own kInt 2 u1759 t1757.fRule.fKeys])
      refine ops_does rfl (guard_none rfl) rfl rfl (does_callk rfl callok15 rfl (laws_markRuleResult.calls (x0 := t1757) (x1 := 1) (hide_olds _ _) hF1777 hFn1778 hFl1779 h1775)) ?_
      rintro _ w1782 ⟨rfl, hn⟩
      replace HM : Mem w [] w1782 [own kInt 2 u1759 t1774.2, box b1761 42 [.int .i64 t1757.fCode, u1759, .int .i64 t1757.fRule.fNeed, .int .i64 t1757.fRule.fAfter], box b1751 42 [.int .i64 t1747.fCode, u1749, .int .i64 t1747.fRule.fNeed, .int .i64 t1747.fRule.fAfter], own kInt 2 u1749 t1747.fRule.fKeys] := hcl1781 _ _ hn
      refine ops_ex rfl (guard_none rfl) rfl rfl (ex_assign rfl rfl) ?_
      refine ops_nil ?_
      refine at_then ?_
      refine run_seq ?_
      refine run_region rfl ?_
      refine ops_ex rfl (guard_none rfl) rfl rfl (ex_assign rfl rfl) ?_
      refine ops_nil ?_
      refine at_then ?_
      refine run_seq ?_
      obtain ⟨t1783, h1784, H⟩ := bind_some H
      refine run_region rfl ?_
      refine ops_ex rfl (guard_none rfl) rfl rfl (ex_loadN (cs := [(.int .i64 t1757.fCode), u1759, (.int .i64 t1757.fRule.fNeed), (.int .i64 t1757.fRule.fAfter)]) rfl rfl Tryd.underlying42 rfl tsz42 rfl ((HM.box_at 1 rfl).sub 0 4 rfl)) ?_
      refine ops_ex rfl (guard_none rfl) rfl rfl (ex_move rfl rfl) ?_
      refine ops_does rfl (guard_none rfl) rfl rfl (does_callk rfl callok16 rfl (laws_heldRuleResult.calls (x0 := (⟨t1757.fCode, (⟨t1774.2, t1757.fRule.fNeed, t1757.fRule.fAfter⟩ : Rule)⟩ : RuleResult)) (x1 := 1) (HM.own_rd 0 rfl) h1784)) ?_
      rintro _ w1785 ⟨rfl, hn⟩
      replace HM : Mem w [] w1785 [own kInt 2 u1759 t1774.2, box b1761 42 [.int .i64 t1757.fCode, u1759, .int .i64 t1757.fRule.fNeed, .int .i64 t1757.fRule.fAfter], box b1751 42 [.int .i64 t1747.fCode, u1749, .int .i64 t1747.fRule.fNeed, .int .i64 t1747.fRule.fAfter], own kInt 2 u1749 t1747.fRule.fKeys] := HM.call hn
      refine ops_ex rfl (guard_none rfl) rfl rfl (ex_assign rfl rfl) ?_
      refine ops_nil ?_
      refine at_then ?_
      refine run_seq ?_
      refine run_seq ?_
      refine run_region rfl ?_
      refine ops_ex rfl (guard_none rfl) rfl rfl (ex_move rfl rfl) ?_
      refine ops_ex rfl (guard_none rfl) rfl rfl (ex_lss rfl rfl rfl) ?_
      refine ops_nil ?_
      refine at_then ?_
      refine run_cond (b := (decide (t1783 < 0))) rfl (fun hb1787 => ?_) (fun hb1787 => ?_)
      · replace H := cond_t hb1787 H
        refine run_seq ?_
        refine run_region rfl ?_
        refine ops_ex rfl (guard_none rfl) rfl rfl (ex_assign rfl rfl) ?_
        refine ops_nil ?_
        refine at_then ?_
        refine run_ret ?_
        refine at_then_ret ?_
        replace HM := (HM.front 0 rfl rfl).drop
        replace HM := (HM.front 0 rfl rfl).drop
        replace HM := (HM.front 0 rfl rfl).drop
        replace HM := (HM.front 0 rfl rfl).drop
        have hR := Option.some.inj H
        subst hR
        exact at_ret1 rfl rfl ⟨_, rfl, rfl, HM⟩
      · replace H := cond_f hb1787 H
        refine run_skip ?_
        refine at_then ?_
        refine run_seq ?_
        refine run_seq ?_
        refine run_region rfl ?_
        refine ops_ex rfl (guard_none rfl) rfl rfl (ex_move rfl rfl) ?_
        refine ops_ex rfl (guard_none rfl) rfl rfl (ex_move rfl rfl) ?_
        refine ops_ex rfl (guard_none rfl) rfl rfl (ex_neq rfl rfl rfl) ?_
        refine ops_nil ?_
        refine at_then ?_
        refine run_cond (b := (t1783 != t1774.1)) rfl (fun hb1789 => ?_) (fun hb1789 => ?_)
        · replace H := cond_t hb1789 H
          refine run_seq ?_
          refine run_region rfl ?_
          refine ops_ex rfl (guard_none rfl) rfl rfl (ex_assign rfl rfl) ?_
          refine ops_nil ?_
          refine at_then ?_
          refine run_ret ?_
          refine at_then_ret ?_
          replace HM := (HM.front 0 rfl rfl).drop
          replace HM := (HM.front 0 rfl rfl).drop
          replace HM := (HM.front 0 rfl rfl).drop
          replace HM := (HM.front 0 rfl rfl).drop
          have hR := Option.some.inj H
          subst hR
          exact at_ret1 rfl rfl ⟨_, rfl, rfl, HM⟩
        · replace H := cond_f hb1789 H
          refine run_skip ?_
          refine at_then ?_
          refine run_seq ?_
          obtain ⟨t1790, h1791, H⟩ := bind_some H
          refine run_region rfl ?_
          refine ops_ex rfl (guard_none rfl) rfl rfl (ex_move rfl rfl) ?_
          refine ops_does rfl (guard_none rfl) rfl rfl (does_callk rfl callok13 rfl (impl_ParseRule.calls (x0 := x0) (HM.tabP htab) h1791)) ?_
          rintro _ w1797 ⟨u1792, rfl, hn⟩
          replace HM : Mem w [] w1797 [own kInt 2 u1792 t1790.fRule.fKeys, own kInt 2 u1759 t1774.2, box b1761 42 [.int .i64 t1757.fCode, u1759, .int .i64 t1757.fRule.fNeed, .int .i64 t1757.fRule.fAfter], box b1751 42 [.int .i64 t1747.fCode, u1749, .int .i64 t1747.fRule.fNeed, .int .i64 t1747.fRule.fAfter], own kInt 2 u1749 t1747.fRule.fKeys] := HM.call hn
          refine ops_does rfl (guard_none rfl) rfl rfl (does_alloc (cs := [.int .i64 0, .slice none 0 0, .int .i64 0, .int .i64 0]) rfl tz42 rfl HM) ?_
          rintro _ w1798 ⟨b1794, rfl, HM⟩
          refine ops_doesS rfl (guard_none rfl) rfl (does_store (vs := [.int .i64 t1790.fCode, u1792, .int .i64 t1790.fRule.fNeed, .int .i64 t1790.fRule.fAfter]) (cs' := [.int .i64 t1790.fCode, u1792, .int .i64 t1790.fRule.fNeed, .int .i64 t1790.fRule.fAfter]) rfl rfl rfl rfl tsz42 (Ones.int (Ones.rd (HM.own_rd 1 rfl) (Ones.int (Ones.int Ones.nil)))) rfl rfl HM) ?_
          rintro w1799 HM
          refine ops_nil ?_
          refine at_then ?_
          refine run_seq ?_
          refine run_seq ?_
          obtain ⟨t1803, h1804, H⟩ := bind_some H
          refine run_region rfl ?_
          refine ops_ex rfl (guard_none rfl) rfl rfl (ex_loadN (cs := [(.int .i64 t1790.fCode), u1792, (.int .i64 t1790.fRule.fNeed), (.int .i64 t1790.fRule.fAfter)]) rfl rfl Tryd.underlying42 rfl tsz42 rfl ((HM.box_at 0 rfl).sub 0 4 rfl)) ?_
          refine ops_ex rfl (guard_none rfl) rfl rfl (ex_loadN (cs := [(.int .i64 t1747.fCode), u1749, (.int .i64 t1747.fRule.fNeed), (.int .i64 t1747.fRule.fAfter)]) rfl rfl Tryd.underlying42 rfl tsz42 rfl ((HM.box_at 4 rfl).sub 0 4 rfl)) ?_
          refine ops_does rfl (guard_none rfl) rfl rfl (does_callk rfl callok14 rfl (laws_eqRuleResult.calls (x0 := t1790) (x1 := t1747) (HM.own_rd 1 rfl) (HM.own_rd 5 rfl) h1804)) ?_
          rintro _ w1805 ⟨rfl, hn⟩
          replace HM : Mem w [] w1805 [box b1794 42 [.int .i64 t1790.fCode, u1792, .int .i64 t1790.fRule.fNeed, .int .i64 t1790.fRule.fAfter], own kInt 2 u1792 t1790.fRule.fKeys, own kInt 2 u1759 t1774.2, box b1761 42 [.int .i64 t1757.fCode, u1759, .int .i64 t1757.fRule.fNeed, .int .i64 t1757.fRule.fAfter], box b1751 42 [.int .i64 t1747.fCode, u1749, .int .i64 t1747.fRule.fNeed, .int .i64 t1747.fRule.fAfter], own kInt 2 u1749 t1747.fRule.fKeys] := HM.call hn
          refine ops_ex rfl (guard_none rfl) rfl rfl (ex_not rfl rfl) ?_
          refine ops_nil ?_
          refine at_then ?_
          refine run_cond (b := !t1803) rfl (fun hb1806 => ?_) (fun hb1806 => ?_)
          · replace H := cond_t hb1806 H
            refine run_seq ?_
            refine run_region rfl ?_
            refine ops_ex rfl (guard_none rfl) rfl rfl (ex_assign rfl rfl) ?_
            refine ops_nil ?_
            refine at_then ?_
            refine run_ret ?_
            refine at_then_ret ?_
            replace HM := (HM.front 0 rfl rfl).drop
            replace HM := (HM.front 0 rfl rfl).drop
            replace HM := (HM.front 0 rfl rfl).drop
            replace HM := (HM.front 0 rfl rfl).drop
            replace HM := (HM.front 0 rfl rfl).drop
            replace HM := (HM.front 0 rfl rfl).drop
            have hR := Option.some.inj H
            subst hR
            exact at_ret1 rfl rfl ⟨_, rfl, rfl, HM⟩
          · replace H := cond_f hb1806 H
            refine run_skip ?_
            refine at_then ?_
            refine run_seq ?_
            refine run_region rfl ?_
            refine ops_ex rfl (guard_none rfl) rfl rfl (ex_assign rfl rfl) ?_
            refine ops_nil ?_
            refine at_then ?_
            refine run_seq ?_
            obtain ⟨t1807, h1808, H⟩ := bind_some H
            refine run_region rfl ?_
            refine ops_ex rfl (guard_none rfl) rfl rfl (ex_loadN (cs := [(.int .i64 t1757.fCode), u1759, (.int .i64 t1757.fRule.fNeed), (.int .i64 t1757.fRule.fAfter)]) rfl rfl Tryd.underlying42 rfl tsz42 rfl ((HM.box_at 3 rfl).sub 0 4 rfl)) ?_
            refine ops_ex rfl (guard_none rfl) rfl rfl (ex_move rfl rfl) ?_
            refine ops_does rfl (guard_none rfl) rfl rfl (does_callk rfl callok16 rfl (laws_heldRuleResult.calls (x0 := (⟨t1757.fCode, (⟨t1774.2, t1757.fRule.fNeed, t1757.fRule.fAfter⟩ : Rule)⟩ : RuleResult)) (x1 := 1) (HM.own_rd 2 rfl) h1808)) ?_
            rintro _ w1809 ⟨rfl, hn⟩
            replace HM : Mem w [] w1809 [box b1794 42 [.int .i64 t1790.fCode, u1792, .int .i64 t1790.fRule.fNeed, .int .i64 t1790.fRule.fAfter], own kInt 2 u1792 t1790.fRule.fKeys, own kInt 2 u1759 t1774.2, box b1761 42 [.int .i64 t1757.fCode, u1759, .int .i64 t1757.fRule.fNeed, .int .i64 t1757.fRule.fAfter], box b1751 42 [.int .i64 t1747.fCode, u1749, .int .i64 t1747.fRule.fNeed, .int .i64 t1747.fRule.fAfter], own kInt 2 u1749 t1747.fRule.fKeys] := HM.call hn
            refine ops_ex rfl (guard_none rfl) rfl rfl (ex_assign rfl rfl) ?_
            refine ops_nil ?_
            refine at_then ?_
            refine run_seq ?_
            refine run_seq ?_
            refine run_region rfl ?_
            refine ops_ex rfl (guard_none rfl) rfl rfl (ex_move rfl rfl) ?_
            refine ops_ex rfl (guard_none rfl) rfl rfl (ex_lss rfl rfl rfl) ?_
            refine ops_nil ?_
            refine at_then ?_
            refine run_cond (b := (decide (t1807 < 0))) rfl (fun hb1811 => ?_) (fun hb1811 => ?_)
            · replace H := cond_t hb1811 H
              refine run_seq ?_
              refine run_region rfl ?_
              refine ops_ex rfl (guard_none rfl) rfl rfl (ex_assign rfl rfl) ?_
              refine ops_nil ?_
              refine at_then ?_
              refine run_ret ?_
              refine at_then_ret ?_
              replace HM := (HM.front 0 rfl rfl).drop
              replace HM := (HM.front 0 rfl rfl).drop
              replace HM := (HM.front 0 rfl rfl).drop
              replace HM := (HM.front 0 rfl rfl).drop
              replace HM := (HM.front 0 rfl rfl).drop
              replace HM := (HM.front 0 rfl rfl).drop
              have hR := Option.some.inj H
              subst hR
              exact at_ret1 rfl rfl ⟨_, rfl, rfl, HM⟩
            · replace H := cond_f hb1811 H
              refine run_skip ?_
              refine at_then ?_
              refine run_seq ?_
              refine run_seq ?_
              refine run_region rfl ?_
              refine ops_ex rfl (guard_none rfl) rfl rfl (ex_move rfl rfl) ?_
              refine ops_ex rfl (guard_none rfl) rfl rfl (ex_move rfl rfl) ?_
              refine ops_ex rfl (guard_none rfl) rfl rfl (ex_neq rfl rfl rfl) ?_
              refine ops_nil ?_
              refine at_then ?_
              refine run_cond (b := (t1807 != t1774.1)) rfl (fun hb1812 => ?_) (fun hb1812 => ?_)
              · replace H := cond_t hb1812 H
                refine run_seq ?_
                refine run_region rfl ?_
                refine ops_ex rfl (guard_none rfl) rfl rfl (ex_assign rfl rfl) ?_
                refine ops_nil ?_
                refine at_then ?_
                refine run_ret ?_
                refine at_then_ret ?_
                replace HM := (HM.front 0 rfl rfl).drop
                replace HM := (HM.front 0 rfl rfl).drop
                replace HM := (HM.front 0 rfl rfl).drop
                replace HM := (HM.front 0 rfl rfl).drop
                replace HM := (HM.front 0 rfl rfl).drop
                replace HM := (HM.front 0 rfl rfl).drop
                have hR := Option.some.inj H
                subst hR
                exact at_ret1 rfl rfl ⟨_, rfl, rfl, HM⟩
              · replace H := cond_f hb1812 H
                refine run_skip ?_
                refine at_then ?_
                refine run_seq ?_
                refine run_region rfl ?_
                refine ops_ex rfl (guard_none rfl) rfl rfl (ex_assign rfl rfl) ?_
                refine ops_nil ?_
                refine at_then ?_
                refine run_ret ?_
                replace HM := (HM.front 0 rfl rfl).drop
                replace HM := (HM.front 0 rfl rfl).drop
                replace HM := (HM.front 0 rfl rfl).drop
                replace HM := (HM.front 0 rfl rfl).drop
                replace HM := (HM.front 0 rfl rfl).drop
                replace HM := (HM.front 0 rfl rfl).drop
                have hR := Option.some.inj H
                subst hR
                exact at_ret1 rfl rfl ⟨_, rfl, rfl, HM⟩
end Go.Proofs.YtcpacdbdehphkaaDoor.Zk
