/- What functions of the program compute, each as a plain function, and that they do. Conditions: as each theorem states them. -/
import Derived.Test.YtigojhglkilodaaOwnedByZkF1
namespace Go.Proofs.Ytigojhglkilodaa.Zk
open Go Go.RowKit Go.IntWalk Go.Proofs
set_option linter.unusedVariables false
set_option linter.unusedSimpArgs false
set_option maxRecDepth 100000
set_option maxHeartbeats 4000000
def impl_within.f (k : Nat) (x0 : Int) (x1 : Int) (x2 : Int) : Option Bool := some ((decide (x1 ≤ x0)) && (decide (x0 ≤ x2)))
theorem impl_within.calls {k : Nat} {x0 : Int} {x1 : Int} {x2 : Int}  {w : World}  {r : Bool} (H : impl_within.f k x0 x1 x2 = some r) :
    Calls Try.prog 112 ([.int .i64 x0, .int .i64 x1, .int .i64 x2] : List Value).toArray w (fun e w_ => ∃ v, e = .returned v ∧ v = (.bool r) ∧ Mem w [] w_ []) := by
  have HM := Mem.start w
  refine calls_run (N := 15) Try.func112 rfl rfl rfl rfl ?_
  unfold impl_within.f at H
  refine run_seq ?_
  refine run_region rfl ?_
  refine ops_ex rfl (guard_none rfl) rfl rfl (ex_assign rfl rfl) ?_
  refine ops_nil ?_
  refine at_then ?_
  refine run_seq ?_
  refine run_meet (fun ρ_ w_ => ρ_ = [(6, .bool ((decide (x1 ≤ x0)) && (decide (x0 ≤ x2))))] ∧ Mem w [] w_ []) ?_ ?_
  · skip
    refine run_region rfl ?_
    refine ops_ex rfl (guard_none rfl) rfl rfl (ex_move rfl rfl) ?_
    refine ops_ex rfl (guard_none rfl) rfl rfl (ex_move rfl rfl) ?_
    refine ops_ex rfl (guard_none rfl) rfl rfl (ex_geq rfl rfl rfl) ?_
    refine ops_ex rfl (guard_none rfl) rfl rfl (ex_move rfl rfl) ?_
    refine bool_cases (decide (x1 ≤ x0)) (fun hg1461 => ?_) (fun hg1461 => ?_)
    · skip
      refine ops_ex rfl (guard_on rfl rfl rfl hg1461) rfl rfl (ex_move rfl rfl) ?_
      refine ops_ex rfl (guard_on rfl rfl rfl hg1461) rfl rfl (ex_move rfl rfl) ?_
      refine ops_ex rfl (guard_on rfl rfl rfl hg1461) rfl rfl (ex_leq rfl rfl rfl) ?_
      refine ops_ex (v := .bool ((decide (x1 ≤ x0)) && (decide (x0 ≤ x2)))) rfl (guard_none rfl) rfl rfl (ex_pand_t rfl rfl hg1461 rfl) ?_
      refine ops_ex rfl (guard_none rfl) rfl rfl (ex_assign rfl rfl) ?_
      refine ops_nil ?_
      exact at_meet [(6, .bool ((decide (x1 ≤ x0)) && (decide (x0 ≤ x2))))] ⟨rfl, HM⟩ (Sub.cons rfl Sub.nil)
    · skip
      refine ops_off rfl (guard_off rfl rfl rfl hg1461) rfl rfl ?_
      refine ops_off rfl (guard_off rfl rfl rfl hg1461) rfl rfl ?_
      refine ops_off rfl (guard_off rfl rfl rfl hg1461) rfl rfl ?_
      have hg1462 : ((decide (x1 ≤ x0)) && (decide (x0 ≤ x2))) = false := by simp only [hg1461, Bool.and_true, Bool.true_and, Bool.and_false, Bool.false_and, Bool.or_true, Bool.true_or, Bool.or_false, Bool.false_or, Bool.not_true, Bool.not_false, Bool.not_not]
      refine ops_ex (v := .bool ((decide (x1 ≤ x0)) && (decide (x0 ≤ x2)))) rfl (guard_none rfl) rfl rfl (ex_pand_f rfl rfl hg1461) ?_
      refine ops_ex rfl (guard_none rfl) rfl rfl (ex_assign rfl rfl) ?_
      refine ops_nil ?_
      exact at_meet [(6, .bool ((decide (x1 ≤ x0)) && (decide (x0 ≤ x2))))] ⟨rfl, HM⟩ (Sub.cons rfl Sub.nil)
  · rintro _ w1463 ⟨rfl, HM⟩
    refine at_then ?_
    refine run_ret ?_
    have hR := Option.some.inj H
    subst hR
    exact at_ret1 rfl rfl ⟨_, rfl, rfl, HM⟩

def impl_isId.f (k : Nat) (x0 : Int) : Option Bool := ((impl_within.f k x0 1 60).bind fun t1466 => some t1466)
theorem impl_isId.calls {k : Nat} {x0 : Int}  {w : World}  {r : Bool} (H : impl_isId.f k x0 = some r) :
    Calls Try.prog 142 ([.int .i64 x0] : List Value).toArray w (fun e w_ => ∃ v, e = .returned v ∧ v = (.bool r) ∧ Mem w [] w_ []) := by
  have HM := Mem.start w
  refine calls_run (N := 5) Try.func142 rfl rfl rfl rfl ?_
  unfold impl_isId.f at H
  refine run_seq ?_
  refine run_region rfl ?_
  refine ops_ex rfl (guard_none rfl) rfl rfl (ex_assign rfl rfl) ?_
  refine ops_nil ?_
  refine at_then ?_
  refine run_seq ?_
  obtain ⟨t1466, h1467, H⟩ := bind_some H
  refine run_region rfl ?_
  refine ops_ex rfl (guard_none rfl) rfl rfl (ex_move rfl rfl) ?_
  refine ops_does rfl (guard_none rfl) rfl rfl (does_callk rfl callok112 rfl (impl_within.calls (x0 := x0) (x1 := 1) (x2 := 60) h1467)) ?_
  rintro _ w1468 ⟨rfl, hn⟩
  replace HM : Mem w [] w1468 [] := HM.call hn
  refine ops_ex rfl (guard_none rfl) rfl rfl (ex_assign rfl rfl) ?_
  refine ops_nil ?_
  refine at_then ?_
  refine run_ret ?_
  have hR := Option.some.inj H
  subst hR
  exact at_ret1 rfl rfl ⟨_, rfl, rfl, HM⟩

def impl_isRef.f (k : Nat) (x0 : Ref) : Option Bool := ((impl_isId.f k x0.fTx).bind fun t1477 => ((bif t1477 then impl_within.f k x0.fAt 0 3 else some default).bind fun t1479 => some (t1477 && t1479)))
theorem impl_isRef.calls {k : Nat} {x0 : Ref}  {w : World}  {r : Bool} (H : impl_isRef.f k x0 = some r) :
    Calls Try.prog 123 ([.agg #[(.int .i64 x0.fTx), (.int .i64 x0.fAt)]] : List Value).toArray w (fun e w_ => ∃ v, e = .returned v ∧ v = (.bool r) ∧ Mem w [] w_ []) := by
  have HM := Mem.start w
  refine calls_run (N := 11) Try.func123 rfl rfl rfl rfl ?_
  unfold impl_isRef.f at H
  refine run_seq ?_
  refine run_region rfl ?_
  refine ops_does rfl (guard_none rfl) rfl rfl (does_box (cs := [.int .i64 x0.fTx, .int .i64 x0.fAt]) rfl rfl rfl HM) ?_
  rintro _ w1476 ⟨b1473, rfl, HM⟩
  refine ops_ex rfl (guard_none rfl) rfl rfl (ex_assign rfl rfl) ?_
  refine ops_nil ?_
  refine at_then ?_
  refine run_seq ?_
  obtain ⟨t1477, h1478, H⟩ := bind_some H
  obtain ⟨t1479, h1480, H⟩ := bind_some H
  refine run_meet (fun ρ_ w_ => ρ_ = [(2, .bool (t1477 && t1479))] ∧ Mem w [] w_ []) ?_ ?_
  · skip
    refine run_region rfl ?_
    refine ops_ex rfl (guard_none rfl) rfl rfl (ex_fieldAddr (off' := 0) rfl rfl Try.underlying54 rfl tsz2 rfl) ?_
    refine ops_ex rfl (guard_none rfl) rfl rfl (ex_load1 rfl rfl Try.underlying2 rfl ((HM.box_at 0 rfl) 0 _ rfl)) ?_
    refine ops_does rfl (guard_none rfl) rfl rfl (does_callk rfl callok142 rfl (impl_isId.calls (x0 := x0.fTx) h1478)) ?_
    rintro _ w1481 ⟨rfl, hn⟩
    replace HM : Mem w [] w1481 [box b1473 54 [.int .i64 x0.fTx, .int .i64 x0.fAt]] := HM.call hn
    refine ops_ex rfl (guard_none rfl) rfl rfl (ex_move rfl rfl) ?_
    refine bool_cases t1477 (fun hg1482 => ?_) (fun hg1482 => ?_)
    · skip
      refine ops_ex rfl (guard_on rfl rfl rfl hg1482) rfl rfl (ex_fieldAddr (off' := 1) rfl rfl Try.underlying54 rfl tsz2 rfl) ?_
      refine ops_ex rfl (guard_on rfl rfl rfl hg1482) rfl rfl (ex_load1 rfl rfl Try.underlying2 rfl ((HM.box_at 0 rfl) 1 _ rfl)) ?_
      refine ops_does rfl (guard_on rfl rfl rfl hg1482) rfl rfl (does_callk rfl callok112 rfl (impl_within.calls (x0 := x0.fAt) (x1 := 0) (x2 := 3) (cond_t hg1482 h1480))) ?_
      rintro _ w1483 ⟨rfl, hn⟩
      replace HM : Mem w [] w1483 [box b1473 54 [.int .i64 x0.fTx, .int .i64 x0.fAt]] := HM.call hn
      refine ops_ex (v := .bool (t1477 && t1479)) rfl (guard_none rfl) rfl rfl (ex_pand_t rfl rfl hg1482 rfl) ?_
      refine ops_ex rfl (guard_none rfl) rfl rfl (ex_assign rfl rfl) ?_
      refine ops_nil ?_
      replace HM := (HM.front 0 rfl rfl).drop
      exact at_meet [(2, .bool (t1477 && t1479))] ⟨rfl, HM⟩ (Sub.cons rfl Sub.nil)
    · skip
      refine ops_off rfl (guard_off rfl rfl rfl hg1482) rfl rfl ?_
      refine ops_off rfl (guard_off rfl rfl rfl hg1482) rfl rfl ?_
      refine ops_off rfl (guard_off rfl rfl rfl hg1482) rfl rfl ?_
      have hg1484 : (t1477 && t1479) = false := by simp only [hg1482, Bool.and_true, Bool.true_and, Bool.and_false, Bool.false_and, Bool.or_true, Bool.true_or, Bool.or_false, Bool.false_or, Bool.not_true, Bool.not_false, Bool.not_not]
      refine ops_ex (v := .bool (t1477 && t1479)) rfl (guard_none rfl) rfl rfl (ex_pand_f rfl rfl hg1482) ?_
      refine ops_ex rfl (guard_none rfl) rfl rfl (ex_assign rfl rfl) ?_
      refine ops_nil ?_
      replace HM := (HM.front 0 rfl rfl).drop
      exact at_meet [(2, .bool (t1477 && t1479))] ⟨rfl, HM⟩ (Sub.cons rfl Sub.nil)
  · rintro _ w1485 ⟨rfl, HM⟩
    refine at_then ?_
    refine run_ret ?_
    have hR := Option.some.inj H
    subst hR
    exact at_ret1 rfl rfl ⟨_, rfl, rfl, HM⟩

def impl_isHeight.f (k : Nat) (x0 : Int) : Option Bool := ((impl_within.f k x0 0 999).bind fun t1490 => some t1490)
theorem impl_isHeight.calls {k : Nat} {x0 : Int}  {w : World}  {r : Bool} (H : impl_isHeight.f k x0 = some r) :
    Calls Try.prog 124 ([.int .i64 x0] : List Value).toArray w (fun e w_ => ∃ v, e = .returned v ∧ v = (.bool r) ∧ Mem w [] w_ []) := by
  have HM := Mem.start w
  refine calls_run (N := 5) Try.func124 rfl rfl rfl rfl ?_
  unfold impl_isHeight.f at H
  refine run_seq ?_
  refine run_region rfl ?_
  refine ops_ex rfl (guard_none rfl) rfl rfl (ex_assign rfl rfl) ?_
  refine ops_nil ?_
  refine at_then ?_
  refine run_seq ?_
  obtain ⟨t1490, h1491, H⟩ := bind_some H
  refine run_region rfl ?_
  refine ops_ex rfl (guard_none rfl) rfl rfl (ex_move rfl rfl) ?_
  refine ops_does rfl (guard_none rfl) rfl rfl (does_callk rfl callok112 rfl (impl_within.calls (x0 := x0) (x1 := 0) (x2 := 999) h1491)) ?_
  rintro _ w1492 ⟨rfl, hn⟩
  replace HM : Mem w [] w1492 [] := HM.call hn
  refine ops_ex rfl (guard_none rfl) rfl rfl (ex_assign rfl rfl) ?_
  refine ops_nil ?_
  refine at_then ?_
  refine run_ret ?_
  have hR := Option.some.inj H
  subst hR
  exact at_ret1 rfl rfl ⟨_, rfl, rfl, HM⟩

def impl_isKey.f (k : Nat) (x0 : Int) : Option Bool := ((impl_within.f k x0 1 999).bind fun t1516 => some t1516)
theorem impl_isKey.calls {k : Nat} {x0 : Int}  {w : World}  {r : Bool} (H : impl_isKey.f k x0 = some r) :
    Calls Try.prog 111 ([.int .i64 x0] : List Value).toArray w (fun e w_ => ∃ v, e = .returned v ∧ v = (.bool r) ∧ Mem w [] w_ []) := by
  have HM := Mem.start w
  refine calls_run (N := 5) Try.func111 rfl rfl rfl rfl ?_
  unfold impl_isKey.f at H
  refine run_seq ?_
  refine run_region rfl ?_
  refine ops_ex rfl (guard_none rfl) rfl rfl (ex_assign rfl rfl) ?_
  refine ops_nil ?_
  refine at_then ?_
  refine run_seq ?_
  obtain ⟨t1516, h1517, H⟩ := bind_some H
  refine run_region rfl ?_
  refine ops_ex rfl (guard_none rfl) rfl rfl (ex_move rfl rfl) ?_
  refine ops_does rfl (guard_none rfl) rfl rfl (does_callk rfl callok112 rfl (impl_within.calls (x0 := x0) (x1 := 1) (x2 := 999) h1517)) ?_
  rintro _ w1518 ⟨rfl, hn⟩
  replace HM : Mem w [] w1518 [] := HM.call hn
  refine ops_ex rfl (guard_none rfl) rfl rfl (ex_assign rfl rfl) ?_
  refine ops_nil ?_
  refine at_then ?_
  refine run_ret ?_
  have hR := Option.some.inj H
  subst hR
  exact at_ret1 rfl rfl ⟨_, rfl, rfl, HM⟩

def impl_areKeys_1.f (k : Nat) (x0 : Int) : Option Bool := ((impl_isKey.f k x0).bind fun t1521 => some (!t1521))
theorem impl_areKeys_1.calls {k : Nat} {x0 : Int}  {w : World}  {r : Bool} (H : impl_areKeys_1.f k x0 = some r) :
    Calls Try.prog 178 ([.int .i64 x0] : List Value).toArray w (fun e w_ => ∃ v, e = .returned v ∧ v = (.bool r) ∧ Mem w [] w_ []) := by
  have HM := Mem.start w
  refine calls_run (N := 6) Try.func178 rfl rfl rfl rfl ?_
  unfold impl_areKeys_1.f at H
  refine run_seq ?_
  refine run_region rfl ?_
  refine ops_ex rfl (guard_none rfl) rfl rfl (ex_assign rfl rfl) ?_
  refine ops_nil ?_
  refine at_then ?_
  refine run_seq ?_
  obtain ⟨t1521, h1522, H⟩ := bind_some H
  refine run_region rfl ?_
  refine ops_ex rfl (guard_none rfl) rfl rfl (ex_move rfl rfl) ?_
  refine ops_does rfl (guard_none rfl) rfl rfl (does_callk rfl callok111 rfl (impl_isKey.calls (x0 := x0) h1522)) ?_
  rintro _ w1523 ⟨rfl, hn⟩
  replace HM : Mem w [] w1523 [] := HM.call hn
  refine ops_ex rfl (guard_none rfl) rfl rfl (ex_not rfl rfl) ?_
  refine ops_ex rfl (guard_none rfl) rfl rfl (ex_assign rfl rfl) ?_
  refine ops_nil ?_
  refine at_then ?_
  refine run_ret ?_
  have hR := Option.some.inj H
  subst hR
  exact at_ret1 rfl rfl ⟨_, rfl, rfl, HM⟩

def slices_IndexFunc_int64.l0 (x0 : List Int) : Nat → Int → Option (Int ⊕ Unit)
  | 0, _ => none
  | k + 1, a1569 => (bif (decide (a1569 < (x0.length : Int))) then (chk (idxOk a1569 x0.length) ((impl_areKeys_1.f k (gt x0 a1569)).bind fun t1581 => (bif t1581 then some (.inl a1569) else slices_IndexFunc_int64.l0 x0 k (wrap64 (a1569 + 1))))) else some (.inr ()))
theorem slices_IndexFunc_int64.l0_z (x0 : List Int) (a1569 : Int) : slices_IndexFunc_int64.l0 x0 0 a1569 = none := rfl
theorem slices_IndexFunc_int64.l0_s (x0 : List Int) (k : Nat) (a1569 : Int) : slices_IndexFunc_int64.l0 x0 (k + 1) a1569 = (bif (decide (a1569 < (x0.length : Int))) then (chk (idxOk a1569 x0.length) ((impl_areKeys_1.f k (gt x0 a1569)).bind fun t1581 => (bif t1581 then some (.inl a1569) else slices_IndexFunc_int64.l0 x0 k (wrap64 (a1569 + 1))))) else some (.inr ())) := rfl
def slices_IndexFunc_int64.f (k : Nat) (x0 : List Int) : Option Int := ((slices_IndexFunc_int64.l0 x0 k 0).bind fun o1561 => thn o1561 (fun r => some r) (fun _ => some (-1)))
theorem slices_IndexFunc_int64.calls {k : Nat} {x0 : List Int} {p0 : Value} {w : World} (hp0 : RdS kInt w p0 x0) {r : Int} (H : slices_IndexFunc_int64.f k x0 = some r) :
    Calls Try.prog 185 ([p0, .func (.func 178) #[] #[]] : List Value).toArray w (fun e w_ => ∃ v, e = .returned v ∧ v = (.int .i64 r) ∧ Mem w [] w_ []) := by
  have HM := Mem.start w
  refine calls_run (N := 19) Try.func185 rfl rfl rfl rfl ?_
  unfold slices_IndexFunc_int64.f at H
  refine run_seq ?_
  refine run_region rfl ?_
  refine ops_ex rfl (guard_none rfl) rfl rfl (ex_assign rfl rfl) ?_
  refine ops_nil ?_
  refine at_then ?_
  obtain ⟨o1561, ho1562, H⟩ := bind_some H
  refine run_mid (fun ρ_ w_ => Sum.inr () = o1561 ∧ ρ_ = [] ∧ Mem w [] w_ []) ?_ ?_
  · skip
    refine run_seq ?_
    refine run_region rfl ?_
    refine ops_ex rfl (guard_none rfl) rfl rfl (ex_move rfl rfl) ?_
    refine ops_ex rfl (guard_none rfl) rfl rfl (ex_len (d := kInt) (xs := x0) rfl rfl Try.underlying111 hp0) ?_
    refine ops_ex rfl (guard_none rfl) rfl rfl (ex_move rfl rfl) ?_
    refine ops_nil ?_
    refine at_then ?_
    refine run_block ?_
    refine run_loop (fun k_ ρ_ w_ => ∃ a1569 : Int, slices_IndexFunc_int64.l0 x0 k_ a1569 = some o1561 ∧ ρ_ = [(0, p0), (1, .func (.func 178) #[] #[]), (7, .int .i64 (x0.length : Int)), (8, .int .i64 a1569)] ∧ Mem w [] w_ []) k (ρ1 := [(0, p0), (1, .func (.func 178) #[] #[]), (7, .int .i64 (x0.length : Int)), (8, .int .i64 0)]) ⟨_, ho1562, rfl, HM⟩ (Sub.cons rfl (Sub.cons rfl (Sub.cons rfl (Sub.cons rfl Sub.nil)))) ?_
    clear HM ho1562
    rintro k1576 _ w1577 ⟨a1569, ho1562, rfl, HM⟩
    obtain _ | k1576 := k1576
    · exact nomatch ((slices_IndexFunc_int64.l0_z x0 a1569).symm.trans ho1562)
    replace ho1562 := (slices_IndexFunc_int64.l0_s x0 k1576 a1569).symm.trans ho1562
    refine run_seq ?_
    refine run_region rfl ?_
    refine ops_ex rfl (guard_none rfl) rfl rfl (ex_lss rfl rfl rfl) ?_
    refine ops_nil ?_
    refine at_then ?_
    refine run_seq ?_
    refine run_cond (b := (decide (a1569 < (x0.length : Int)))) rfl (fun hb1578 => ?_) (fun hb1578 => ?_)
    · replace ho1562 := cond_t hb1578 ho1562
      refine run_skip ?_
      refine at_then ?_
      refine run_seq ?_
      refine run_block ?_
      refine run_seq ?_
      refine run_region rfl ?_
      refine ops_ex rfl (guard_none rfl) rfl rfl (ex_move rfl rfl) ?_
      refine ops_ex rfl (guard_none rfl) rfl rfl (ex_assign rfl rfl) ?_
      refine ops_nil ?_
      refine at_then ?_
      refine run_seq ?_
      obtain ⟨e1579, ho1562⟩ := chk_some ho1562
      obtain ⟨t1581, h1582, ho1562⟩ := bind_some ho1562
      refine run_region rfl ?_
      refine ops_ex rfl (guard_none rfl) rfl rfl (ex_move rfl rfl) ?_
      refine ops_ex rfl (guard_none rfl) rfl rfl (ex_move rfl rfl) ?_
      refine ops_ex rfl (guard_none rfl) rfl rfl (ex_move rfl rfl) ?_
      have hc1580 : CellsAt _ (sb p0) (so p0 + (a1569).toNat * 1) [(.int .i64 (gt x0 a1569))] := rd_plain hp0 e1579
      refine ops_ex rfl (guard_none rfl) rfl rfl (ex_indexAddr (d := kInt) rfl rfl rfl Try.underlying111 tsz2 hp0 (idx_lo e1579) (idx_hi e1579)) ?_
      refine ops_ex rfl (guard_none rfl) rfl rfl (ex_load1 rfl rfl Try.underlying2 rfl ((HM.at_ hc1580) 0 _ rfl)) ?_
      refine ops_does rfl (guard_none rfl) rfl rfl (does_callvk rfl callok178 rfl rfl rfl (impl_areKeys_1.calls (x0 := (gt x0 a1569)) h1582)) ?_
      rintro _ w1583 ⟨rfl, hn⟩
      replace HM : Mem w [] w1583 [] := HM.call hn
      refine ops_nil ?_
      refine at_then ?_
      refine run_cond (b := t1581) rfl (fun hb1584 => ?_) (fun hb1584 => ?_)
      · replace ho1562 := cond_t hb1584 ho1562
        refine run_seq ?_
        refine run_region rfl ?_
        refine ops_ex rfl (guard_none rfl) rfl rfl (ex_move rfl rfl) ?_
        refine ops_ex rfl (guard_none rfl) rfl rfl (ex_assign rfl rfl) ?_
        refine ops_nil ?_
        refine at_then ?_
        refine run_ret ?_
        refine at_block_ret ?_
        refine at_then_ret ?_
        refine at_then_ret ?_
        refine at_block_ret ?_
        refine at_then_ret ?_
        have hR := Option.some.inj ho1562
        subst hR
        have hT := thn_inl H
        have hR := Option.some.inj hT
        subst hR
        exact at_ret1 rfl rfl ⟨_, rfl, rfl, HM⟩
      · replace ho1562 := cond_f hb1584 ho1562
        refine run_skip ?_
        refine at_block ?_
        refine at_then ?_
        refine run_region rfl ?_
        refine ops_ex rfl (guard_none rfl) rfl rfl (ex_add rfl rfl rfl) ?_
        refine ops_ex rfl (guard_none rfl) rfl rfl (ex_move rfl rfl) ?_
        refine ops_nil ?_
        exact at_again k1576 (ρ1 := [(0, p0), (1, .func (.func 178) #[] #[]), (7, .int .i64 (x0.length : Int)), (8, .int .i64 (wrap64 (a1569 + 1)))]) (Nat.lt_succ_self _) ⟨_, ho1562, rfl, HM⟩ (Sub.cons rfl (Sub.cons rfl (Sub.cons rfl (Sub.cons rfl Sub.nil))))
    · replace ho1562 := cond_f hb1578 ho1562
      refine run_exit ?_
      refine at_then_exit ?_
      refine at_then_exit ?_
      refine at_block_exit ?_
      exact at_mid (ρ' := []) ⟨(Option.some.inj ho1562), rfl, HM⟩ Sub.nil
  · rintro _ w1585 ⟨rfl, rfl, HM⟩
    replace H := (thn_inr H)
    refine run_seq ?_
    refine run_region rfl ?_
    refine ops_ex rfl (guard_none rfl) rfl rfl (ex_assign rfl rfl) ?_
    refine ops_nil ?_
    refine at_then ?_
    refine run_ret ?_
    have hR := Option.some.inj H
    subst hR
    exact at_ret1 rfl rfl ⟨_, rfl, rfl, HM⟩

def slices_ContainsFunc_int64.f (k : Nat) (x0 : List Int) : Option Bool := ((slices_IndexFunc_int64.f k x0).bind fun t1588 => some (decide (0 ≤ t1588)))
theorem slices_ContainsFunc_int64.calls {k : Nat} {x0 : List Int} {p0 : Value} {w : World} (hp0 : RdS kInt w p0 x0) {r : Bool} (H : slices_ContainsFunc_int64.f k x0 = some r) :
    Calls Try.prog 177 ([p0, .func (.func 178) #[] #[]] : List Value).toArray w (fun e w_ => ∃ v, e = .returned v ∧ v = (.bool r) ∧ Mem w [] w_ []) := by
  have HM := Mem.start w
  refine calls_run (N := 9) Try.func177 rfl rfl rfl rfl ?_
  unfold slices_ContainsFunc_int64.f at H
  refine run_seq ?_
  refine run_region rfl ?_
  refine ops_ex rfl (guard_none rfl) rfl rfl (ex_assign rfl rfl) ?_
  refine ops_nil ?_
  refine at_then ?_
  refine run_seq ?_
  obtain ⟨t1588, h1589, H⟩ := bind_some H
  refine run_region rfl ?_
  refine ops_ex rfl (guard_none rfl) rfl rfl (ex_move rfl rfl) ?_
  refine ops_ex rfl (guard_none rfl) rfl rfl (ex_move rfl rfl) ?_
  refine ops_does rfl (guard_none rfl) rfl rfl (does_callk rfl callok185 rfl (slices_IndexFunc_int64.calls (x0 := x0) (HM.rd hp0) h1589)) ?_
  rintro _ w1590 ⟨rfl, hn⟩
  replace HM : Mem w [] w1590 [] := HM.call hn
  refine ops_ex rfl (guard_none rfl) rfl rfl (ex_geq rfl rfl rfl) ?_
  refine ops_ex rfl (guard_none rfl) rfl rfl (ex_assign rfl rfl) ?_
  refine ops_nil ?_
  refine at_then ?_
  refine run_ret ?_
  have hR := Option.some.inj H
  subst hR
  exact at_ret1 rfl rfl ⟨_, rfl, rfl, HM⟩

def impl_areKeys.f (k : Nat) (x0 : List Int) : Option Bool := ((slices_ContainsFunc_int64.f k x0).bind fun t1593 => some (!t1593))
theorem impl_areKeys.calls {k : Nat} {x0 : List Int} {p0 : Value} {w : World} (hp0 : RdS kInt w p0 x0) {r : Bool} (H : impl_areKeys.f k x0 = some r) :
    Calls Try.prog 159 ([p0] : List Value).toArray w (fun e w_ => ∃ v, e = .returned v ∧ v = (.bool r) ∧ Mem w [] w_ []) := by
  have HM := Mem.start w
  refine calls_run (N := 6) Try.func159 rfl rfl rfl rfl ?_
  unfold impl_areKeys.f at H
  refine run_seq ?_
  refine run_region rfl ?_
  refine ops_ex rfl (guard_none rfl) rfl rfl (ex_assign rfl rfl) ?_
  refine ops_nil ?_
  refine at_then ?_
  refine run_seq ?_
  obtain ⟨t1593, h1594, H⟩ := bind_some H
  refine run_region rfl ?_
  refine ops_ex rfl (guard_none rfl) rfl rfl (ex_move rfl rfl) ?_
  refine ops_does rfl (guard_none rfl) rfl rfl (does_callk rfl callok177 rfl (slices_ContainsFunc_int64.calls (x0 := x0) (HM.rd hp0) h1594)) ?_
  rintro _ w1595 ⟨rfl, hn⟩
  replace HM : Mem w [] w1595 [] := HM.call hn
  refine ops_ex rfl (guard_none rfl) rfl rfl (ex_not rfl rfl) ?_
  refine ops_ex rfl (guard_none rfl) rfl rfl (ex_assign rfl rfl) ?_
  refine ops_nil ?_
  refine at_then ?_
  refine run_ret ?_
  have hR := Option.some.inj H
  subst hR
  exact at_ret1 rfl rfl ⟨_, rfl, rfl, HM⟩

def impl_isRising.l0 (x0 : List Int) : Nat → Int → Option (Bool ⊕ Unit)
  | 0, _ => none
  | k + 1, a1651 => (bif (decide (a1651 < (x0.length : Int))) then (chk (idxOk a1651 x0.length) (chk (idxOk (wrap64 (a1651 - 1)) x0.length) (bif (decide ((gt x0 a1651) ≤ (gt x0 (wrap64 (a1651 - 1))))) then some (.inl false) else impl_isRising.l0 x0 k (wrap64 (a1651 + 1))))) else some (.inr ()))
theorem impl_isRising.l0_z (x0 : List Int) (a1651 : Int) : impl_isRising.l0 x0 0 a1651 = none := rfl
theorem impl_isRising.l0_s (x0 : List Int) (k : Nat) (a1651 : Int) : impl_isRising.l0 x0 (k + 1) a1651 = (bif (decide (a1651 < (x0.length : Int))) then (chk (idxOk a1651 x0.length) (chk (idxOk (wrap64 (a1651 - 1)) x0.length) (bif (decide ((gt x0 a1651) ≤ (gt x0 (wrap64 (a1651 - 1))))) then some (.inl false) else impl_isRising.l0 x0 k (wrap64 (a1651 + 1))))) else some (.inr ())) := rfl
def impl_isRising.f (k : Nat) (x0 : List Int) : Option Bool := ((impl_isRising.l0 x0 k 1).bind fun o1643 => thn o1643 (fun r => some r) (fun _ => some true))
theorem impl_isRising.calls {k : Nat} {x0 : List Int} {p0 : Value} {w : World} (hp0 : RdS kInt w p0 x0) {r : Bool} (H : impl_isRising.f k x0 = some r) :
    Calls Try.prog 160 ([p0] : List Value).toArray w (fun e w_ => ∃ v, e = .returned v ∧ v = (.bool r) ∧ Mem w [] w_ []) := by
  have HM := Mem.start w
  refine calls_run (N := 20) Try.func160 rfl rfl rfl rfl ?_
  unfold impl_isRising.f at H
  refine run_seq ?_
  refine run_region rfl ?_
  refine ops_ex rfl (guard_none rfl) rfl rfl (ex_assign rfl rfl) ?_
  refine ops_nil ?_
  refine at_then ?_
  obtain ⟨o1643, ho1644, H⟩ := bind_some H
  refine run_mid (fun ρ_ w_ => Sum.inr () = o1643 ∧ ρ_ = [] ∧ Mem w [] w_ []) ?_ ?_
  · skip
    refine run_seq ?_
    refine run_region rfl ?_
    refine ops_ex rfl (guard_none rfl) rfl rfl (ex_assign rfl rfl) ?_
    refine ops_nil ?_
    refine at_then ?_
    refine run_block ?_
    refine run_loop (fun k_ ρ_ w_ => ∃ a1651 : Int, impl_isRising.l0 x0 k_ a1651 = some o1643 ∧ ρ_ = [(0, p0), (3, .int .i64 a1651)] ∧ Mem w [] w_ []) k (ρ1 := [(0, p0), (3, .int .i64 1)]) ⟨_, ho1644, rfl, HM⟩ (Sub.cons rfl (Sub.cons rfl Sub.nil)) ?_
    clear HM ho1644
    rintro k1658 _ w1659 ⟨a1651, ho1644, rfl, HM⟩
    obtain _ | k1658 := k1658
    · exact nomatch ((impl_isRising.l0_z x0 a1651).symm.trans ho1644)
    replace ho1644 := (impl_isRising.l0_s x0 k1658 a1651).symm.trans ho1644
    refine run_seq ?_
    refine run_seq ?_
    refine run_region rfl ?_
    refine ops_ex rfl (guard_none rfl) rfl rfl (ex_move rfl rfl) ?_
    refine ops_ex rfl (guard_none rfl) rfl rfl (ex_move rfl rfl) ?_
    refine ops_ex rfl (guard_none rfl) rfl rfl (ex_len (d := kInt) (xs := x0) rfl rfl Try.underlying111 hp0) ?_
    refine ops_ex rfl (guard_none rfl) rfl rfl (ex_lss rfl rfl rfl) ?_
    refine ops_nil ?_
    refine at_then ?_
    refine run_cond (b := (decide (a1651 < (x0.length : Int)))) rfl (fun hb1660 => ?_) (fun hb1660 => ?_)
    · replace ho1644 := cond_t hb1660 ho1644
      refine run_skip ?_
      refine at_then ?_
      refine run_seq ?_
      refine run_block ?_
      refine run_seq ?_
      obtain ⟨e1661, ho1644⟩ := chk_some ho1644
      obtain ⟨e1663, ho1644⟩ := chk_some ho1644
      refine run_drawf (fun w_ => Mem w [] w_ []) [(0, true), (1, true), (2, true), (3, true), (4, true), (5, true), (6, true), (7, true), (8, true), (9, true)] mixed rfl rfl (by kernel_rfl) ?_
      replace HM := HM.grow (fr_drew _)
      have hS := Mem.suf (M := []) HM
      refine drwp_take rfl (guard_none rfl) rfl rfl (fun w_ hS_ => (ex_move rfl rfl)) hS ?_
      refine drwp_take rfl (guard_none rfl) rfl rfl (fun w_ hS_ => (ex_move rfl rfl)) hS ?_
      have hc1662 : CellsAt _ (sb p0) (so p0 + (a1651).toNat * 1) [(.int .i64 (gt x0 a1651))] := rd_plain hp0 e1661
      refine drwp_take rfl (guard_none rfl) rfl rfl (fun w_ hS_ => (ex_indexAddr (d := kInt) rfl rfl rfl Try.underlying111 tsz2 hp0 (idx_lo e1661) (idx_hi e1661))) hS ?_
      refine drwp_take rfl (guard_none rfl) rfl rfl (fun w_ hS_ => (ex_load1 rfl rfl Try.underlying2 rfl ((hS_.at_ hc1662) 0 _ rfl))) hS ?_
      refine drwp_take rfl (guard_none rfl) rfl rfl (fun w_ hS_ => (ex_move rfl rfl)) hS ?_
      refine drwp_take rfl (guard_none rfl) rfl rfl (fun w_ hS_ => (ex_move rfl rfl)) hS ?_
      refine drwp_take rfl (guard_none rfl) rfl rfl (fun w_ hS_ => (ex_sub rfl rfl rfl)) hS ?_
      have hc1664 : CellsAt _ (sb p0) (so p0 + (wrap64 (a1651 - 1)).toNat * 1) [(.int .i64 (gt x0 (wrap64 (a1651 - 1))))] := rd_plain hp0 e1663
      refine drwp_take rfl (guard_none rfl) rfl rfl (fun w_ hS_ => (ex_indexAddr (d := kInt) rfl rfl rfl Try.underlying111 tsz2 hp0 (idx_lo e1663) (idx_hi e1663))) hS ?_
      refine drwp_take rfl (guard_none rfl) rfl rfl (fun w_ hS_ => (ex_load1 rfl rfl Try.underlying2 rfl ((hS_.at_ hc1664) 0 _ rfl))) hS ?_
      refine drwp_take rfl (guard_none rfl) rfl rfl (fun w_ hS_ => (ex_leq rfl rfl rfl)) hS ?_
      refine drwp_done ?_
      refine at_then ?_
      refine run_cond (b := (decide ((gt x0 a1651) ≤ (gt x0 (wrap64 (a1651 - 1)))))) rfl (fun hb1665 => ?_) (fun hb1665 => ?_)
      · replace ho1644 := cond_t hb1665 ho1644
        refine run_seq ?_
        refine run_region rfl ?_
        refine ops_ex rfl (guard_none rfl) rfl rfl (ex_assign rfl rfl) ?_
        refine ops_nil ?_
        refine at_then ?_
        refine run_ret ?_
        refine at_block_ret ?_
        refine at_then_ret ?_
        refine at_then_ret ?_
        refine at_block_ret ?_
        refine at_then_ret ?_
        have hR := Option.some.inj ho1644
        subst hR
        have hT := thn_inl H
        have hR := Option.some.inj hT
        subst hR
        exact at_ret1 rfl rfl ⟨_, rfl, rfl, HM⟩
      · replace ho1644 := cond_f hb1665 ho1644
        refine run_skip ?_
        refine at_block ?_
        refine at_then ?_
        refine run_region rfl ?_
        refine ops_ex rfl (guard_none rfl) rfl rfl (ex_move rfl rfl) ?_
        refine ops_ex rfl (guard_none rfl) rfl rfl (ex_add rfl rfl rfl) ?_
        refine ops_ex rfl (guard_none rfl) rfl rfl (ex_assign rfl rfl) ?_
        refine ops_nil ?_
        exact at_again k1658 (ρ1 := [(0, p0), (3, .int .i64 (wrap64 (a1651 + 1)))]) (Nat.lt_succ_self _) ⟨_, ho1644, rfl, HM⟩ (Sub.cons rfl (Sub.cons rfl Sub.nil))
    · replace ho1644 := cond_f hb1660 ho1644
      refine run_exit ?_
      refine at_then_exit ?_
      refine at_then_exit ?_
      refine at_block_exit ?_
      exact at_mid (ρ' := []) ⟨(Option.some.inj ho1644), rfl, HM⟩ Sub.nil
  · rintro _ w1666 ⟨rfl, rfl, HM⟩
    replace H := (thn_inr H)
    refine run_seq ?_
    refine run_region rfl ?_
    refine ops_ex rfl (guard_none rfl) rfl rfl (ex_assign rfl rfl) ?_
    refine ops_nil ?_
    refine at_then ?_
    refine run_ret ?_
    have hR := Option.some.inj H
    subst hR
    exact at_ret1 rfl rfl ⟨_, rfl, rfl, HM⟩

def impl_RuleFault.f (k : Nat) (x0 : Rule) : Option Int := ((impl_within.f k (x0.fKeys.length : Int) 1 3).bind fun t1674 => (bif !t1674 then some 2 else ((impl_areKeys.f k x0.fKeys).bind fun t1678 => ((bif (!(!t1678)) then impl_within.f k x0.fNeed 1 (x0.fKeys.length : Int) else some default).bind fun t1680 => ((bif (!((!t1678) || (!t1680))) then impl_isHeight.f k x0.fAfter else some default).bind fun t1682 => (bif (((!t1678) || (!t1680)) || (!t1682)) then some 3 else ((impl_isRising.f k x0.fKeys).bind fun t1694 => (bif !t1694 then some 1 else some 0))))))))
theorem impl_RuleFault.calls {k : Nat} {x0 : Rule} {p0_0 : Value} {w : World} (hp0_0 : RdS kInt w p0_0 x0.fKeys) {r : Int} (H : impl_RuleFault.f k x0 = some r) :
    Calls Try.prog 125 ([.agg #[p0_0, (.int .i64 x0.fNeed), (.int .i64 x0.fAfter)]] : List Value).toArray w (fun e w_ => ∃ v, e = .returned v ∧ v = (.int .i64 r) ∧ Mem w [] w_ []) := by
  have HM := Mem.start w
  refine calls_run (N := 34) Try.func125 rfl rfl rfl rfl ?_
  unfold impl_RuleFault.f at H
  refine run_seq ?_
  refine run_region rfl ?_
  refine ops_does rfl (guard_none rfl) rfl rfl (does_box (cs := [p0_0, .int .i64 x0.fNeed, .int .i64 x0.fAfter]) rfl rfl rfl HM) ?_
  rintro _ w1673 ⟨b1670, rfl, HM⟩
  refine ops_ex rfl (guard_none rfl) rfl rfl (ex_assign rfl rfl) ?_
  refine ops_nil ?_
  refine at_then ?_
  refine run_seq ?_
  refine run_region rfl ?_
  refine ops_ex rfl (guard_none rfl) rfl rfl (ex_fieldAddr (off' := 0) rfl rfl Try.underlying119 rfl tsz111 rfl) ?_
  refine ops_ex rfl (guard_none rfl) rfl rfl (ex_load1 rfl rfl Try.underlying111 rfl ((HM.box_at 0 rfl) 0 _ rfl)) ?_
  refine ops_ex rfl (guard_none rfl) rfl rfl (ex_len (d := kInt) (xs := x0.fKeys) rfl rfl Try.underlying111 hp0_0) ?_
  refine ops_ex rfl (guard_none rfl) rfl rfl (ex_assign rfl rfl) ?_
  refine ops_nil ?_
  refine at_then ?_
  refine run_seq ?_
  refine run_block ?_
  refine run_seq ?_
  obtain ⟨t1674, h1675, H⟩ := bind_some H
  refine run_region rfl ?_
  refine ops_ex rfl (guard_none rfl) rfl rfl (ex_move rfl rfl) ?_
  refine ops_does rfl (guard_none rfl) rfl rfl (does_callk rfl callok112 rfl (impl_within.calls (x0 := (x0.fKeys.length : Int)) (x1 := 1) (x2 := 3) h1675)) ?_
  rintro _ w1676 ⟨rfl, hn⟩
  replace HM : Mem w [] w1676 [box b1670 119 [p0_0, .int .i64 x0.fNeed, .int .i64 x0.fAfter]] := HM.call hn
  refine ops_ex rfl (guard_none rfl) rfl rfl (ex_not rfl rfl) ?_
  refine ops_ex rfl (guard_none rfl) rfl rfl (ex_assign rfl rfl) ?_
  refine ops_nil ?_
  refine at_then ?_
  refine run_cond (b := !t1674) rfl (fun hb1677 => ?_) (fun hb1677 => ?_)
  · replace H := cond_t hb1677 H
    refine run_seq ?_
    refine run_region rfl ?_
    refine ops_ex rfl (guard_none rfl) rfl rfl (ex_assign rfl rfl) ?_
    refine ops_nil ?_
    refine at_then ?_
    refine run_ret ?_
    refine at_block_ret ?_
    refine at_then_ret ?_
    replace HM := (HM.front 0 rfl rfl).drop
    have hR := Option.some.inj H
    subst hR
    exact at_ret1 rfl rfl ⟨_, rfl, rfl, HM⟩
  · replace H := cond_f hb1677 H
    refine run_seq ?_
    obtain ⟨t1678, h1679, H⟩ := bind_some H
    obtain ⟨t1680, h1681, H⟩ := bind_some H
    obtain ⟨t1682, h1683, H⟩ := bind_some H
    refine run_meet (fun ρ_ w_ => ρ_ = [(1, .pointer (some ⟨b1670, 0, none⟩)), (11, .bool (((!t1678) || (!t1680)) || (!t1682)))] ∧ Mem w [] w_ [box b1670 119 [p0_0, .int .i64 x0.fNeed, .int .i64 x0.fAfter]]) ?_ ?_
    · skip
      refine run_region rfl ?_
      refine ops_ex rfl (guard_none rfl) rfl rfl (ex_fieldAddr (off' := 0) rfl rfl Try.underlying119 rfl tsz111 rfl) ?_
      refine ops_ex rfl (guard_none rfl) rfl rfl (ex_load1 rfl rfl Try.underlying111 rfl ((HM.box_at 0 rfl) 0 _ rfl)) ?_
      refine ops_does rfl (guard_none rfl) rfl rfl (does_callk rfl callok159 rfl (impl_areKeys.calls (x0 := x0.fKeys) (HM.rd hp0_0) h1679)) ?_
      rintro _ w1684 ⟨rfl, hn⟩
      replace HM : Mem w [] w1684 [box b1670 119 [p0_0, .int .i64 x0.fNeed, .int .i64 x0.fAfter]] := HM.call hn
      refine ops_ex rfl (guard_none rfl) rfl rfl (ex_not rfl rfl) ?_
      refine ops_ex rfl (guard_none rfl) rfl rfl (ex_move rfl rfl) ?_
      refine bool_cases (!t1678) (fun hg1685 => ?_) (fun hg1685 => ?_)
      · skip
        refine ops_off rfl (guard_off rfl rfl rfl hg1685) rfl rfl ?_
        refine ops_off rfl (guard_off rfl rfl rfl hg1685) rfl rfl ?_
        refine ops_off rfl (guard_off rfl rfl rfl hg1685) rfl rfl ?_
        refine ops_off rfl (guard_off rfl rfl rfl hg1685) rfl rfl ?_
        refine ops_off rfl (guard_off rfl rfl rfl hg1685) rfl rfl ?_
        have hg1686 : ((!t1678) || (!t1680)) = true := by simp only [hg1685, Bool.and_true, Bool.true_and, Bool.and_false, Bool.false_and, Bool.or_true, Bool.true_or, Bool.or_false, Bool.false_or, Bool.not_true, Bool.not_false, Bool.not_not]
        refine ops_ex (v := .bool ((!t1678) || (!t1680))) rfl (guard_none rfl) rfl rfl (ex_por_t rfl rfl hg1685) ?_
        refine ops_ex rfl (guard_none rfl) rfl rfl (ex_move rfl rfl) ?_
        refine ops_off rfl (guard_off rfl rfl rfl hg1686) rfl rfl ?_
        refine ops_off rfl (guard_off rfl rfl rfl hg1686) rfl rfl ?_
        refine ops_off rfl (guard_off rfl rfl rfl hg1686) rfl rfl ?_
        refine ops_off rfl (guard_off rfl rfl rfl hg1686) rfl rfl ?_
        have hg1687 : (((!t1678) || (!t1680)) || (!t1682)) = true := by simp only [hg1686, Bool.and_true, Bool.true_and, Bool.and_false, Bool.false_and, Bool.or_true, Bool.true_or, Bool.or_false, Bool.false_or, Bool.not_true, Bool.not_false, Bool.not_not]
        refine ops_ex (v := .bool (((!t1678) || (!t1680)) || (!t1682))) rfl (guard_none rfl) rfl rfl (ex_por_t rfl rfl hg1686) ?_
        refine ops_ex rfl (guard_none rfl) rfl rfl (ex_assign rfl rfl) ?_
        refine ops_nil ?_
        exact at_meet [(1, .pointer (some ⟨b1670, 0, none⟩)), (11, .bool (((!t1678) || (!t1680)) || (!t1682)))] ⟨rfl, HM⟩ (Sub.cons rfl (Sub.cons rfl Sub.nil))
      · skip
        refine ops_ex rfl (guard_on rfl rfl rfl hg1685) rfl rfl (ex_fieldAddr (off' := 1) rfl rfl Try.underlying119 rfl tsz2 rfl) ?_
        refine ops_ex rfl (guard_on rfl rfl rfl hg1685) rfl rfl (ex_load1 rfl rfl Try.underlying2 rfl ((HM.box_at 0 rfl) 1 _ rfl)) ?_
        refine ops_ex rfl (guard_on rfl rfl rfl hg1685) rfl rfl (ex_move rfl rfl) ?_
        refine ops_does rfl (guard_on rfl rfl rfl hg1685) rfl rfl (does_callk rfl callok112 rfl (impl_within.calls (x0 := x0.fNeed) (x1 := 1) (x2 := (x0.fKeys.length : Int)) (cond_t (not_mk hg1685) h1681))) ?_
        rintro _ w1688 ⟨rfl, hn⟩
        replace HM : Mem w [] w1688 [box b1670 119 [p0_0, .int .i64 x0.fNeed, .int .i64 x0.fAfter]] := HM.call hn
        refine ops_ex rfl (guard_on rfl rfl rfl hg1685) rfl rfl (ex_not rfl rfl) ?_
        refine ops_ex (v := .bool ((!t1678) || (!t1680))) rfl (guard_none rfl) rfl rfl (ex_por_f rfl rfl hg1685 rfl) ?_
        refine ops_ex rfl (guard_none rfl) rfl rfl (ex_move rfl rfl) ?_
        refine bool_cases ((!t1678) || (!t1680)) (fun hg1689 => ?_) (fun hg1689 => ?_)
        · skip
          refine ops_off rfl (guard_off rfl rfl rfl hg1689) rfl rfl ?_
          refine ops_off rfl (guard_off rfl rfl rfl hg1689) rfl rfl ?_
          refine ops_off rfl (guard_off rfl rfl rfl hg1689) rfl rfl ?_
          refine ops_off rfl (guard_off rfl rfl rfl hg1689) rfl rfl ?_
          have hg1690 : (((!t1678) || (!t1680)) || (!t1682)) = true := by simp only [hg1689, Bool.and_true, Bool.true_and, Bool.and_false, Bool.false_and, Bool.or_true, Bool.true_or, Bool.or_false, Bool.false_or, Bool.not_true, Bool.not_false, Bool.not_not]
          refine ops_ex (v := .bool (((!t1678) || (!t1680)) || (!t1682))) rfl (guard_none rfl) rfl rfl (ex_por_t rfl rfl hg1689) ?_
          refine ops_ex rfl (guard_none rfl) rfl rfl (ex_assign rfl rfl) ?_
          refine ops_nil ?_
          exact at_meet [(1, .pointer (some ⟨b1670, 0, none⟩)), (11, .bool (((!t1678) || (!t1680)) || (!t1682)))] ⟨rfl, HM⟩ (Sub.cons rfl (Sub.cons rfl Sub.nil))
        · skip
          refine ops_ex rfl (guard_on rfl rfl rfl hg1689) rfl rfl (ex_fieldAddr (off' := 2) rfl rfl Try.underlying119 rfl tsz2 rfl) ?_
          refine ops_ex rfl (guard_on rfl rfl rfl hg1689) rfl rfl (ex_load1 rfl rfl Try.underlying2 rfl ((HM.box_at 0 rfl) 2 _ rfl)) ?_
          refine ops_does rfl (guard_on rfl rfl rfl hg1689) rfl rfl (does_callk rfl callok124 rfl (impl_isHeight.calls (x0 := x0.fAfter) (cond_t (not_mk hg1689) h1683))) ?_
          rintro _ w1691 ⟨rfl, hn⟩
          replace HM : Mem w [] w1691 [box b1670 119 [p0_0, .int .i64 x0.fNeed, .int .i64 x0.fAfter]] := HM.call hn
          refine ops_ex rfl (guard_on rfl rfl rfl hg1689) rfl rfl (ex_not rfl rfl) ?_
          refine ops_ex (v := .bool (((!t1678) || (!t1680)) || (!t1682))) rfl (guard_none rfl) rfl rfl (ex_por_f rfl rfl hg1689 rfl) ?_
          refine ops_ex rfl (guard_none rfl) rfl rfl (ex_assign rfl rfl) ?_
          refine ops_nil ?_
          exact at_meet [(1, .pointer (some ⟨b1670, 0, none⟩)), (11, .bool (((!t1678) || (!t1680)) || (!t1682)))] ⟨rfl, HM⟩ (Sub.cons rfl (Sub.cons rfl Sub.nil))
    · rintro _ w1692 ⟨rfl, HM⟩
      refine at_then ?_
      refine run_cond (b := (((!t1678) || (!t1680)) || (!t1682))) rfl (fun hb1693 => ?_) (fun hb1693 => ?_)
      · replace H := cond_t hb1693 H
        refine run_seq ?_
        refine run_region rfl ?_
        refine ops_ex rfl (guard_none rfl) rfl rfl (ex_assign rfl rfl) ?_
        refine ops_nil ?_
        refine at_then ?_
        refine run_ret ?_
        refine at_block_ret ?_
        refine at_then_ret ?_
        replace HM := (HM.front 0 rfl rfl).drop
        have hR := Option.some.inj H
        subst hR
        exact at_ret1 rfl rfl ⟨_, rfl, rfl, HM⟩
      · replace H := cond_f hb1693 H
        refine run_seq ?_
        obtain ⟨t1694, h1695, H⟩ := bind_some H
        refine run_region rfl ?_
        refine ops_ex rfl (guard_none rfl) rfl rfl (ex_fieldAddr (off' := 0) rfl rfl Try.underlying119 rfl tsz111 rfl) ?_
        refine ops_ex rfl (guard_none rfl) rfl rfl (ex_load1 rfl rfl Try.underlying111 rfl ((HM.box_at 0 rfl) 0 _ rfl)) ?_
        refine ops_does rfl (guard_none rfl) rfl rfl (does_callk rfl callok160 rfl (impl_isRising.calls (x0 := x0.fKeys) (HM.rd hp0_0) h1695)) ?_
        rintro _ w1696 ⟨rfl, hn⟩
        replace HM : Mem w [] w1696 [box b1670 119 [p0_0, .int .i64 x0.fNeed, .int .i64 x0.fAfter]] := HM.call hn
        refine ops_ex rfl (guard_none rfl) rfl rfl (ex_not rfl rfl) ?_
        refine ops_ex rfl (guard_none rfl) rfl rfl (ex_assign rfl rfl) ?_
        refine ops_nil ?_
        refine at_then ?_
        refine run_cond (b := !t1694) rfl (fun hb1697 => ?_) (fun hb1697 => ?_)
        · replace H := cond_t hb1697 H
          refine run_seq ?_
          refine run_region rfl ?_
          refine ops_ex rfl (guard_none rfl) rfl rfl (ex_assign rfl rfl) ?_
          refine ops_nil ?_
          refine at_then ?_
          refine run_ret ?_
          refine at_block_ret ?_
          refine at_then_ret ?_
          replace HM := (HM.front 0 rfl rfl).drop
          have hR := Option.some.inj H
          subst hR
          exact at_ret1 rfl rfl ⟨_, rfl, rfl, HM⟩
        · replace H := cond_f hb1697 H
          refine run_skip ?_
          refine at_block ?_
          refine at_then ?_
          refine run_seq ?_
          refine run_region rfl ?_
          refine ops_ex rfl (guard_none rfl) rfl rfl (ex_assign rfl rfl) ?_
          refine ops_nil ?_
          refine at_then ?_
          refine run_ret ?_
          replace HM := (HM.front 0 rfl rfl).drop
          have hR := Option.some.inj H
          subst hR
          exact at_ret1 rfl rfl ⟨_, rfl, rfl, HM⟩

def cmp_isNaN_int64.f (k : Nat) (x0 : Int) : Option Bool := some (x0 != x0)
theorem cmp_isNaN_int64.calls {k : Nat} {x0 : Int}  {w : World}  {r : Bool} (H : cmp_isNaN_int64.f k x0 = some r) :
    Calls Try.prog 179 ([.int .i64 x0] : List Value).toArray w (fun e w_ => ∃ v, e = .returned v ∧ v = (.bool r) ∧ Mem w [] w_ []) := by
  have HM := Mem.start w
  refine calls_run (N := 6) Try.func179 rfl rfl rfl rfl ?_
  unfold cmp_isNaN_int64.f at H
  refine run_seq ?_
  refine run_region rfl ?_
  refine ops_ex rfl (guard_none rfl) rfl rfl (ex_assign rfl rfl) ?_
  refine ops_nil ?_
  refine at_then ?_
  refine run_seq ?_
  refine run_region rfl ?_
  refine ops_ex rfl (guard_none rfl) rfl rfl (ex_move rfl rfl) ?_
  refine ops_ex rfl (guard_none rfl) rfl rfl (ex_move rfl rfl) ?_
  refine ops_ex rfl (guard_none rfl) rfl rfl (ex_neq rfl rfl rfl) ?_
  refine ops_ex rfl (guard_none rfl) rfl rfl (ex_assign rfl rfl) ?_
  refine ops_nil ?_
  refine at_then ?_
  refine run_ret ?_
  have hR := Option.some.inj H
  subst hR
  exact at_ret1 rfl rfl ⟨_, rfl, rfl, HM⟩

def cmp_Compare_int64.f (k : Nat) (x0 : Int) (x1 : Int) : Option Int := ((cmp_isNaN_int64.f k x0).bind fun t1727 => ((cmp_isNaN_int64.f k x1).bind fun t1730 => (bif t1727 then (bif t1730 then some 0 else some (-1)) else (bif t1730 then some 1 else (bif (decide (x0 < x1)) then some (-1) else (bif (decide (x1 < x0)) then some 1 else some 0))))))
theorem cmp_Compare_int64.calls {k : Nat} {x0 : Int} {x1 : Int}  {w : World}  {r : Int} (H : cmp_Compare_int64.f k x0 x1 = some r) :
    Calls Try.prog 162 ([.int .i64 x0, .int .i64 x1] : List Value).toArray w (fun e w_ => ∃ v, e = .returned v ∧ v = (.int .i64 r) ∧ Mem w [] w_ []) := by
  have HM := Mem.start w
  refine calls_run (N := 20) Try.func162 rfl rfl rfl rfl ?_
  unfold cmp_Compare_int64.f at H
  refine run_seq ?_
  refine run_region rfl ?_
  refine ops_ex rfl (guard_none rfl) rfl rfl (ex_assign rfl rfl) ?_
  refine ops_nil ?_
  refine at_then ?_
  refine run_seq ?_
  obtain ⟨t1727, h1728, H⟩ := bind_some H
  refine run_region rfl ?_
  refine ops_ex rfl (guard_none rfl) rfl rfl (ex_move rfl rfl) ?_
  refine ops_does rfl (guard_none rfl) rfl rfl (does_callk rfl callok179 rfl (cmp_isNaN_int64.calls (x0 := x0) h1728)) ?_
  rintro _ w1729 ⟨rfl, hn⟩
  replace HM : Mem w [] w1729 [] := HM.call hn
  refine ops_ex rfl (guard_none rfl) rfl rfl (ex_assign rfl rfl) ?_
  refine ops_nil ?_
  refine at_then ?_
  refine run_seq ?_
  obtain ⟨t1730, h1731, H⟩ := bind_some H
  refine run_region rfl ?_
  refine ops_ex rfl (guard_none rfl) rfl rfl (ex_move rfl rfl) ?_
  refine ops_does rfl (guard_none rfl) rfl rfl (does_callk rfl callok179 rfl (cmp_isNaN_int64.calls (x0 := x1) h1731)) ?_
  rintro _ w1732 ⟨rfl, hn⟩
  replace HM : Mem w [] w1732 [] := HM.call hn
  refine ops_ex rfl (guard_none rfl) rfl rfl (ex_assign rfl rfl) ?_
  refine ops_nil ?_
  refine at_then ?_
  refine run_seq ?_
  refine run_seq ?_
  refine run_region rfl ?_
  refine ops_ex rfl (guard_none rfl) rfl rfl (ex_move rfl rfl) ?_
  refine ops_nil ?_
  refine at_then ?_
  refine run_cond (b := t1727) rfl (fun hb1735 => ?_) (fun hb1735 => ?_)
  · replace H := cond_t hb1735 H
    refine run_seq ?_
    refine run_seq ?_
    refine run_region rfl ?_
    refine ops_ex rfl (guard_none rfl) rfl rfl (ex_move rfl rfl) ?_
    refine ops_nil ?_
    refine at_then ?_
    refine run_cond (b := t1730) rfl (fun hb1736 => ?_) (fun hb1736 => ?_)
    · replace H := cond_t hb1736 H
      refine run_seq ?_
      refine run_region rfl ?_
      refine ops_ex rfl (guard_none rfl) rfl rfl (ex_assign rfl rfl) ?_
      refine ops_nil ?_
      refine at_then ?_
      refine run_ret ?_
      refine at_then_ret ?_
      refine at_then_ret ?_
      have hR := Option.some.inj H
      subst hR
      exact at_ret1 rfl rfl ⟨_, rfl, rfl, HM⟩
    · replace H := cond_f hb1736 H
      refine run_skip ?_
      refine at_then ?_
      refine run_seq ?_
      refine run_region rfl ?_
      refine ops_ex rfl (guard_none rfl) rfl rfl (ex_assign rfl rfl) ?_
      refine ops_nil ?_
      refine at_then ?_
      refine run_ret ?_
      refine at_then_ret ?_
      have hR := Option.some.inj H
      subst hR
      exact at_ret1 rfl rfl ⟨_, rfl, rfl, HM⟩
  · replace H := cond_f hb1735 H
    refine run_skip ?_
    refine at_then ?_
    refine run_seq ?_
    refine run_seq ?_
    refine run_region rfl ?_
    refine ops_ex rfl (guard_none rfl) rfl rfl (ex_move rfl rfl) ?_
    refine ops_nil ?_
    refine at_then ?_
    refine run_cond (b := t1730) rfl (fun hb1738 => ?_) (fun hb1738 => ?_)
    · replace H := cond_t hb1738 H
      refine run_seq ?_
      refine run_region rfl ?_
      refine ops_ex rfl (guard_none rfl) rfl rfl (ex_assign rfl rfl) ?_
      refine ops_nil ?_
      refine at_then ?_
      refine run_ret ?_
      refine at_then_ret ?_
      have hR := Option.some.inj H
      subst hR
      exact at_ret1 rfl rfl ⟨_, rfl, rfl, HM⟩
    · replace H := cond_f hb1738 H
      refine run_skip ?_
      refine at_then ?_
      refine run_seq ?_
      refine run_seq ?_
      refine run_region rfl ?_
      refine ops_ex rfl (guard_none rfl) rfl rfl (ex_move rfl rfl) ?_
      refine ops_ex rfl (guard_none rfl) rfl rfl (ex_move rfl rfl) ?_
      refine ops_ex rfl (guard_none rfl) rfl rfl (ex_lss rfl rfl rfl) ?_
      refine ops_nil ?_
      refine at_then ?_
      refine run_cond (b := (decide (x0 < x1))) rfl (fun hb1740 => ?_) (fun hb1740 => ?_)
      · replace H := cond_t hb1740 H
        refine run_seq ?_
        refine run_region rfl ?_
        refine ops_ex rfl (guard_none rfl) rfl rfl (ex_assign rfl rfl) ?_
        refine ops_nil ?_
        refine at_then ?_
        refine run_ret ?_
        refine at_then_ret ?_
        have hR := Option.some.inj H
        subst hR
        exact at_ret1 rfl rfl ⟨_, rfl, rfl, HM⟩
      · replace H := cond_f hb1740 H
        refine run_skip ?_
        refine at_then ?_
        refine run_seq ?_
        refine run_seq ?_
        refine run_region rfl ?_
        refine ops_ex rfl (guard_none rfl) rfl rfl (ex_move rfl rfl) ?_
        refine ops_ex rfl (guard_none rfl) rfl rfl (ex_move rfl rfl) ?_
        refine ops_ex rfl (guard_none rfl) rfl rfl (ex_gtr rfl rfl rfl) ?_
        refine ops_nil ?_
        refine at_then ?_
        refine run_cond (b := (decide (x1 < x0))) rfl (fun hb1741 => ?_) (fun hb1741 => ?_)
        · replace H := cond_t hb1741 H
          refine run_seq ?_
          refine run_region rfl ?_
          refine ops_ex rfl (guard_none rfl) rfl rfl (ex_assign rfl rfl) ?_
          refine ops_nil ?_
          refine at_then ?_
          refine run_ret ?_
          refine at_then_ret ?_
          have hR := Option.some.inj H
          subst hR
          exact at_ret1 rfl rfl ⟨_, rfl, rfl, HM⟩
        · replace H := cond_f hb1741 H
          refine run_skip ?_
          refine at_then ?_
          refine run_seq ?_
          refine run_region rfl ?_
          refine ops_ex rfl (guard_none rfl) rfl rfl (ex_assign rfl rfl) ?_
          refine ops_nil ?_
          refine at_then ?_
          refine run_ret ?_
          have hR := Option.some.inj H
          subst hR
          exact at_ret1 rfl rfl ⟨_, rfl, rfl, HM⟩

def cmp_Or_int.l0 (x0 : List Int) : Nat → Int → Option (Int ⊕ Unit)
  | 0, _ => none
  | k + 1, a1783 => (bif (decide (a1783 < (x0.length : Int))) then (chk (idxOk a1783 x0.length) (bif ((gt x0 a1783) != 0) then some (.inl (gt x0 a1783)) else cmp_Or_int.l0 x0 k (wrap64 (a1783 + 1)))) else some (.inr ()))
theorem cmp_Or_int.l0_z (x0 : List Int) (a1783 : Int) : cmp_Or_int.l0 x0 0 a1783 = none := rfl
theorem cmp_Or_int.l0_s (x0 : List Int) (k : Nat) (a1783 : Int) : cmp_Or_int.l0 x0 (k + 1) a1783 = (bif (decide (a1783 < (x0.length : Int))) then (chk (idxOk a1783 x0.length) (bif ((gt x0 a1783) != 0) then some (.inl (gt x0 a1783)) else cmp_Or_int.l0 x0 k (wrap64 (a1783 + 1)))) else some (.inr ())) := rfl
def cmp_Or_int.f (k : Nat) (x0 : List Int) : Option Int := ((cmp_Or_int.l0 x0 k 0).bind fun o1777 => thn o1777 (fun r => some r) (fun _ => some 0))
theorem cmp_Or_int.calls {k : Nat} {x0 : List Int} {p0 : Value} {w : World} (hp0 : RdS kInt w p0 x0) {r : Int} (H : cmp_Or_int.f k x0 = some r) :
    Calls Try.prog 161 ([p0] : List Value).toArray w (fun e w_ => ∃ v, e = .returned v ∧ v = (.int .i64 r) ∧ Mem w [] w_ []) := by
  have HM := Mem.start w
  refine calls_run (N := 18) Try.func161 rfl rfl rfl rfl ?_
  unfold cmp_Or_int.f at H
  refine run_seq ?_
  refine run_region rfl ?_
  refine ops_ex rfl (guard_none rfl) rfl rfl (ex_assign rfl rfl) ?_
  refine ops_nil ?_
  refine at_then ?_
  refine run_seq ?_
  refine run_region rfl ?_
  refine ops_ex rfl (guard_none rfl) rfl rfl (ex_assign rfl rfl) ?_
  refine ops_nil ?_
  refine at_then ?_
  obtain ⟨o1777, ho1778, H⟩ := bind_some H
  refine run_mid (fun ρ_ w_ => Sum.inr () = o1777 ∧ ρ_ = [(3, .int .i64 0)] ∧ Mem w [] w_ []) ?_ ?_
  · skip
    refine run_seq ?_
    refine run_region rfl ?_
    refine ops_ex rfl (guard_none rfl) rfl rfl (ex_move rfl rfl) ?_
    refine ops_ex rfl (guard_none rfl) rfl rfl (ex_len (d := kInt) (xs := x0) rfl rfl Try.underlying215 hp0) ?_
    refine ops_ex rfl (guard_none rfl) rfl rfl (ex_move rfl rfl) ?_
    refine ops_nil ?_
    refine at_then ?_
    refine run_block ?_
    refine run_loop (fun k_ ρ_ w_ => ∃ a1783 : Int, cmp_Or_int.l0 x0 k_ a1783 = some o1777 ∧ ρ_ = [(3, .int .i64 0), (6, p0), (7, .int .i64 (x0.length : Int)), (8, .int .i64 a1783)] ∧ Mem w [] w_ []) k (ρ1 := [(3, .int .i64 0), (6, p0), (7, .int .i64 (x0.length : Int)), (8, .int .i64 0)]) ⟨_, ho1778, rfl, HM⟩ (Sub.cons rfl (Sub.cons rfl (Sub.cons rfl (Sub.cons rfl Sub.nil)))) ?_
    clear HM ho1778
    rintro k1788 _ w1789 ⟨a1783, ho1778, rfl, HM⟩
    obtain _ | k1788 := k1788
    · exact nomatch ((cmp_Or_int.l0_z x0 a1783).symm.trans ho1778)
    replace ho1778 := (cmp_Or_int.l0_s x0 k1788 a1783).symm.trans ho1778
    refine run_seq ?_
    refine run_region rfl ?_
    refine ops_ex rfl (guard_none rfl) rfl rfl (ex_lss rfl rfl rfl) ?_
    refine ops_nil ?_
    refine at_then ?_
    refine run_seq ?_
    refine run_cond (b := (decide (a1783 < (x0.length : Int)))) rfl (fun hb1790 => ?_) (fun hb1790 => ?_)
    · replace ho1778 := cond_t hb1790 ho1778
      refine run_skip ?_
      refine at_then ?_
      refine run_seq ?_
      refine run_block ?_
      refine run_seq ?_
      obtain ⟨e1791, ho1778⟩ := chk_some ho1778
      refine run_region rfl ?_
      have hc1792 : CellsAt _ (sb p0) (so p0 + (a1783).toNat * 1) [(.int .i64 (gt x0 a1783))] := rd_plain hp0 e1791
      refine ops_ex rfl (guard_none rfl) rfl rfl (ex_indexAddr (d := kInt) rfl rfl rfl Try.underlying215 tsz3 hp0 (idx_lo e1791) (idx_hi e1791)) ?_
      refine ops_ex rfl (guard_none rfl) rfl rfl (ex_load1 rfl rfl Try.underlying3 rfl ((HM.at_ hc1792) 0 _ rfl)) ?_
      refine ops_ex rfl (guard_none rfl) rfl rfl (ex_assign rfl rfl) ?_
      refine ops_nil ?_
      refine at_then ?_
      refine run_seq ?_
      refine run_region rfl ?_
      refine ops_ex rfl (guard_none rfl) rfl rfl (ex_move rfl rfl) ?_
      refine ops_ex rfl (guard_none rfl) rfl rfl (ex_move rfl rfl) ?_
      refine ops_ex rfl (guard_none rfl) rfl rfl (ex_neq rfl rfl rfl) ?_
      refine ops_nil ?_
      refine at_then ?_
      refine run_cond (b := ((gt x0 a1783) != 0)) rfl (fun hb1793 => ?_) (fun hb1793 => ?_)
      · replace ho1778 := cond_t hb1793 ho1778
        refine run_seq ?_
        refine run_region rfl ?_
        refine ops_ex rfl (guard_none rfl) rfl rfl (ex_move rfl rfl) ?_
        refine ops_ex rfl (guard_none rfl) rfl rfl (ex_assign rfl rfl) ?_
        refine ops_nil ?_
        refine at_then ?_
        refine run_ret ?_
        refine at_block_ret ?_
        refine at_then_ret ?_
        refine at_then_ret ?_
        refine at_block_ret ?_
        refine at_then_ret ?_
        have hR := Option.some.inj ho1778
        subst hR
        have hT := thn_inl H
        have hR := Option.some.inj hT
        subst hR
        exact at_ret1 rfl rfl ⟨_, rfl, rfl, HM⟩
      · replace ho1778 := cond_f hb1793 ho1778
        refine run_skip ?_
        refine at_block ?_
        refine at_then ?_
        refine run_region rfl ?_
        refine ops_ex rfl (guard_none rfl) rfl rfl (ex_add rfl rfl rfl) ?_
        refine ops_ex rfl (guard_none rfl) rfl rfl (ex_move rfl rfl) ?_
        refine ops_nil ?_
        exact at_again k1788 (ρ1 := [(3, .int .i64 0), (6, p0), (7, .int .i64 (x0.length : Int)), (8, .int .i64 (wrap64 (a1783 + 1)))]) (Nat.lt_succ_self _) ⟨_, ho1778, rfl, HM⟩ (Sub.cons rfl (Sub.cons rfl (Sub.cons rfl (Sub.cons rfl Sub.nil))))
    · replace ho1778 := cond_f hb1790 ho1778
      refine run_exit ?_
      refine at_then_exit ?_
      refine at_then_exit ?_
      refine at_block_exit ?_
      exact at_mid (ρ' := [(3, .int .i64 0)]) ⟨(Option.some.inj ho1778), rfl, HM⟩ (Sub.cons rfl Sub.nil)
  · rintro _ w1794 ⟨rfl, rfl, HM⟩
    replace H := (thn_inr H)
    refine run_seq ?_
    refine run_region rfl ?_
    refine ops_ex rfl (guard_none rfl) rfl rfl (ex_move rfl rfl) ?_
    refine ops_ex rfl (guard_none rfl) rfl rfl (ex_assign rfl rfl) ?_
    refine ops_nil ?_
    refine at_then ?_
    refine run_ret ?_
    have hR := Option.some.inj H
    subst hR
    exact at_ret1 rfl rfl ⟨_, rfl, rfl, HM⟩

def impl_compareRefs.f (k : Nat) (x0 : Ref) (x1 : Ref) : Option Int := ((cmp_Compare_int64.f k x0.fTx x1.fTx).bind fun t1805 => ((cmp_Compare_int64.f k x0.fAt x1.fAt).bind fun t1807 => ((cmp_Or_int.f k ([t1805, t1807] : List Int)).bind fun t1812 => some t1812)))
theorem impl_compareRefs.calls {k : Nat} {x0 : Ref} {x1 : Ref}  {w : World}  {r : Int} (H : impl_compareRefs.f k x0 x1 = some r) :
    Calls Try.prog 126 ([.agg #[(.int .i64 x0.fTx), (.int .i64 x0.fAt)], .agg #[(.int .i64 x1.fTx), (.int .i64 x1.fAt)]] : List Value).toArray w (fun e w_ => ∃ v, e = .returned v ∧ v = (.int .i64 r) ∧ Mem w [] w_ []) := by
  have HM := Mem.start w
  refine calls_run (N := 17) Try.func126 rfl rfl rfl rfl ?_
  unfold impl_compareRefs.f at H
  refine run_seq ?_
  refine run_region rfl ?_
  refine ops_does rfl (guard_none rfl) rfl rfl (does_box (cs := [.int .i64 x0.fTx, .int .i64 x0.fAt]) rfl rfl rfl HM) ?_
  rintro _ w1803 ⟨b1797, rfl, HM⟩
  refine ops_does rfl (guard_none rfl) rfl rfl (does_box (cs := [.int .i64 x1.fTx, .int .i64 x1.fAt]) rfl rfl rfl HM) ?_
  rintro _ w1804 ⟨b1800, rfl, HM⟩
  refine ops_ex rfl (guard_none rfl) rfl rfl (ex_assign rfl rfl) ?_
  refine ops_nil ?_
  refine at_then ?_
  refine run_seq ?_
  obtain ⟨t1805, h1806, H⟩ := bind_some H
  obtain ⟨t1807, h1808, H⟩ := bind_some H
  obtain ⟨t1812, h1813, H⟩ := bind_some H
  refine run_drawf (fun w_ => Mem w [] w_ [box b1800 54 [.int .i64 x1.fTx, .int .i64 x1.fAt], box b1797 54 [.int .i64 x0.fTx, .int .i64 x0.fAt]]) [(0, true), (1, true), (2, true), (3, true), (5, true), (6, true), (7, true), (8, true), (4, false), (9, false), (10, false), (11, false), (12, true)] mixed rfl rfl (by kernel_rfl) ?_
  replace HM := HM.grow (fr_drew _)
  have hS := Mem.suf (M := []) HM
  refine drwp_take rfl (guard_none rfl) rfl rfl (fun w_ hS_ => (ex_fieldAddr (off' := 0) rfl rfl Try.underlying54 rfl tsz2 rfl)) hS ?_
  refine drwp_take rfl (guard_none rfl) rfl rfl (fun w_ hS_ => (ex_load1 rfl rfl Try.underlying2 rfl ((hS_.box_at 1 rfl) 0 _ rfl))) hS ?_
  refine drwp_take rfl (guard_none rfl) rfl rfl (fun w_ hS_ => (ex_fieldAddr (off' := 0) rfl rfl Try.underlying54 rfl tsz2 rfl)) hS ?_
  refine drwp_take rfl (guard_none rfl) rfl rfl (fun w_ hS_ => (ex_load1 rfl rfl Try.underlying2 rfl ((hS_.box_at 0 rfl) 0 _ rfl))) hS ?_
  refine drwp_take rfl (guard_none rfl) rfl rfl (fun w_ hS_ => (ex_fieldAddr (off' := 1) rfl rfl Try.underlying54 rfl tsz2 rfl)) hS ?_
  refine drwp_take rfl (guard_none rfl) rfl rfl (fun w_ hS_ => (ex_load1 rfl rfl Try.underlying2 rfl ((hS_.box_at 1 rfl) 1 _ rfl))) hS ?_
  refine drwp_take rfl (guard_none rfl) rfl rfl (fun w_ hS_ => (ex_fieldAddr (off' := 1) rfl rfl Try.underlying54 rfl tsz2 rfl)) hS ?_
  refine drwp_take rfl (guard_none rfl) rfl rfl (fun w_ hS_ => (ex_load1 rfl rfl Try.underlying2 rfl ((hS_.box_at 0 rfl) 1 _ rfl))) hS ?_
  refine drwp_one rfl (guard_none rfl) rfl rfl (does_callk rfl callok162 rfl (cmp_Compare_int64.calls (x0 := x0.fTx) (x1 := x1.fTx) h1806)) ?_
  rintro _ w1814 ⟨rfl, hn⟩
  replace HM : Mem w [] w1814 [box b1800 54 [.int .i64 x1.fTx, .int .i64 x1.fAt], box b1797 54 [.int .i64 x0.fTx, .int .i64 x0.fAt]] := HM.call hn
  refine ⟨Mem.suf (M := []) HM, ?_⟩
  have hS := Mem.suf (M := []) HM
  refine drwp_one rfl (guard_none rfl) rfl rfl (does_callk rfl callok162 rfl (cmp_Compare_int64.calls (x0 := x0.fAt) (x1 := x1.fAt) h1808)) ?_
  rintro _ w1815 ⟨rfl, hn⟩
  replace HM : Mem w [] w1815 [box b1800 54 [.int .i64 x1.fTx, .int .i64 x1.fAt], box b1797 54 [.int .i64 x0.fTx, .int .i64 x0.fAt]] := HM.call hn
  refine ⟨Mem.suf (M := []) HM, ?_⟩
  have hS := Mem.suf (M := []) HM
  refine drwp_one rfl (guard_none rfl) rfl rfl (does_lit (e := 3) (cs := [.int .i64 t1805, .int .i64 t1807]) (xs := ([t1805, t1807] : List Int)) kInt rfl rfl (fun _ => by kernel_rfl) rfl rfl (fun _ _ h => by have h' : _ = [] := h; subst h'; exact (Elems.cons (d := kInt) (f := []) ⟨rfl, rfl⟩ (Elems.cons (d := kInt) (f := []) ⟨rfl, rfl⟩ .nil))) HM.emp) ?_
  rintro v1809 w1816 HM
  refine ⟨Mem.suf (M := [own kInt 3 v1809 ([t1805, t1807] : List Int)]) HM, ?_⟩
  have hS := Mem.suf (M := [own kInt 3 v1809 ([t1805, t1807] : List Int)]) HM
  refine drwp_one rfl (guard_none rfl) rfl rfl (does_callk rfl callok161 rfl (cmp_Or_int.calls (x0 := ([t1805, t1807] : List Int)) (HM.own_rd 0 rfl) h1813)) ?_
  rintro _ w1817 ⟨rfl, hn⟩
  replace HM : Mem w [] w1817 [own kInt 3 v1809 ([t1805, t1807] : List Int), box b1800 54 [.int .i64 x1.fTx, .int .i64 x1.fAt], box b1797 54 [.int .i64 x0.fTx, .int .i64 x0.fAt]] := HM.call hn
  refine ⟨Mem.suf (M := [own kInt 3 v1809 ([t1805, t1807] : List Int)]) HM, ?_⟩
  have hS := Mem.suf (M := [own kInt 3 v1809 ([t1805, t1807] : List Int)]) HM
  refine drwp_take rfl (guard_none rfl) rfl rfl (fun w_ hS_ => (ex_assign rfl rfl)) hS ?_
  refine drwp_done ?_
  refine at_then ?_
  refine run_ret ?_
  replace HM := (HM.front 0 rfl rfl).drop
  replace HM := (HM.front 0 rfl rfl).drop
  replace HM := (HM.front 0 rfl rfl).drop
  have hR := Option.some.inj H
  subst hR
  exact at_ret1 rfl rfl ⟨_, rfl, rfl, HM⟩

def impl_CoinsFault.l0 (x0 : List Coin) : Nat → Int → Option (Int ⊕ Unit)
  | 0, _ => none
  | k + 1, a2039 => (bif (decide (a2039 < (x0.length : Int))) then (chk (idxOk a2039 x0.length) ((impl_isRef.f k ((gt x0 a2039).fRef)).bind fun t2094 => ((bif (!(!t2094)) then impl_isHeight.f k ((gt x0 a2039).fHeight) else some default).bind fun t2096 => ((bif (!((!t2094) || (!t2096))) then impl_within.f k ((gt x0 a2039).fOut.fValue) 1 1000000 else some default).bind fun t2098 => (bif (((!t2094) || (!t2096)) || (!t2098)) then some (.inl 3) else ((impl_RuleFault.f k ((gt x0 a2039).fOut.fRule)).bind fun t2113 => (bif (t2113 != 0) then some (.inl t2113) else (chk (!(decide (0 < a2039)) || (idxOk (wrap64 (a2039 - 1)) x0.length)) ((bif (decide (0 < a2039)) then impl_compareRefs.f k ((gt x0 (wrap64 (a2039 - 1))).fRef) ((gt x0 a2039).fRef) else some default).bind fun t2121 => (bif ((decide (0 < a2039)) && (decide (0 ≤ t2121))) then some (.inl 1) else impl_CoinsFault.l0 x0 k (wrap64 (a2039 + 1)))))))))))) else some (.inr ()))
theorem impl_CoinsFault.l0_z (x0 : List Coin) (a2039 : Int) : impl_CoinsFault.l0 x0 0 a2039 = none := rfl
theorem impl_CoinsFault.l0_s (x0 : List Coin) (k : Nat) (a2039 : Int) : impl_CoinsFault.l0 x0 (k + 1) a2039 = (bif (decide (a2039 < (x0.length : Int))) then (chk (idxOk a2039 x0.length) ((impl_isRef.f k ((gt x0 a2039).fRef)).bind fun t2094 => ((bif (!(!t2094)) then impl_isHeight.f k ((gt x0 a2039).fHeight) else some default).bind fun t2096 => ((bif (!((!t2094) || (!t2096))) then impl_within.f k ((gt x0 a2039).fOut.fValue) 1 1000000 else some default).bind fun t2098 => (bif (((!t2094) || (!t2096)) || (!t2098)) then some (.inl 3) else ((impl_RuleFault.f k ((gt x0 a2039).fOut.fRule)).bind fun t2113 => (bif (t2113 != 0) then some (.inl t2113) else (chk (!(decide (0 < a2039)) || (idxOk (wrap64 (a2039 - 1)) x0.length)) ((bif (decide (0 < a2039)) then impl_compareRefs.f k ((gt x0 (wrap64 (a2039 - 1))).fRef) ((gt x0 a2039).fRef) else some default).bind fun t2121 => (bif ((decide (0 < a2039)) && (decide (0 ≤ t2121))) then some (.inl 1) else impl_CoinsFault.l0 x0 k (wrap64 (a2039 + 1)))))))))))) else some (.inr ())) := rfl
def impl_CoinsFault.f (k : Nat) (x0 : List Coin) : Option Int := (bif (decide (40 < (x0.length : Int))) then some 2 else ((impl_CoinsFault.l0 x0 k 0).bind fun o2002 => thn o2002 (fun r => some r) (fun _ => some 0)))
theorem impl_CoinsFault.calls {k : Nat} {x0 : List Coin} {p0 : Value} {w : World} (hp0 : RdS kCoin w p0 x0) {r : Int} (H : impl_CoinsFault.f k x0 = some r) :
    Calls Try.prog 76 ([p0] : List Value).toArray w (fun e w_ => ∃ v, e = .returned v ∧ v = (.int .i64 r) ∧ Mem w [] w_ []) := by
  have HM := Mem.start w
  refine calls_run (N := 55) Try.func76 rfl rfl rfl rfl ?_
  unfold impl_CoinsFault.f at H
  refine run_seq ?_
  refine run_region rfl ?_
  refine ops_ex rfl (guard_none rfl) rfl rfl (ex_assign rfl rfl) ?_
  refine ops_nil ?_
  refine at_then ?_
  refine run_seq ?_
  refine run_seq ?_
  refine run_region rfl ?_
  refine ops_ex rfl (guard_none rfl) rfl rfl (ex_move rfl rfl) ?_
  refine ops_ex rfl (guard_none rfl) rfl rfl (ex_len (d := kCoin) (xs := x0) rfl rfl Try.underlying44 hp0) ?_
  refine ops_ex rfl (guard_none rfl) rfl rfl (ex_gtr rfl rfl rfl) ?_
  refine ops_nil ?_
  refine at_then ?_
  refine run_cond (b := (decide (40 < (x0.length : Int)))) rfl (fun hb1895 => ?_) (fun hb1895 => ?_)
  · replace H := cond_t hb1895 H
    refine run_seq ?_
    refine run_region rfl ?_
    refine ops_ex rfl (guard_none rfl) rfl rfl (ex_assign rfl rfl) ?_
    refine ops_nil ?_
    refine at_then ?_
    refine run_ret ?_
    refine at_then_ret ?_
    have hR := Option.some.inj H
    subst hR
    exact at_ret1 rfl rfl ⟨_, rfl, rfl, HM⟩
  · replace H := cond_f hb1895 H
    refine run_skip ?_
    refine at_then ?_
    obtain ⟨o2002, ho2003, H⟩ := bind_some H
    refine run_mid (fun ρ_ w_ => Sum.inr () = o2002 ∧ ρ_ = [] ∧ Mem w [] w_ []) ?_ ?_
    · skip
      refine run_seq ?_
      refine run_region rfl ?_
      refine ops_ex rfl (guard_none rfl) rfl rfl (ex_move rfl rfl) ?_
      refine ops_ex rfl (guard_none rfl) rfl rfl (ex_len (d := kCoin) (xs := x0) rfl rfl Try.underlying44 hp0) ?_
      refine ops_ex rfl (guard_none rfl) rfl rfl (ex_move rfl rfl) ?_
      refine ops_nil ?_
      refine at_then ?_
      refine run_block ?_
      refine run_loop (fun k_ ρ_ w_ => ∃ a2039 : Int, impl_CoinsFault.l0 x0 k_ a2039 = some o2002 ∧ ρ_ = [(0, p0), (9, p0), (10, .int .i64 (x0.length : Int)), (11, .int .i64 a2039)] ∧ Mem w [] w_ []) k (ρ1 := [(0, p0), (9, p0), (10, .int .i64 (x0.length : Int)), (11, .int .i64 0)]) ⟨_, ho2003, rfl, HM⟩ (Sub.cons rfl (Sub.cons rfl (Sub.cons rfl (Sub.cons rfl Sub.nil)))) ?_
      clear HM ho2003
      rintro k2075 _ w2076 ⟨a2039, ho2003, rfl, HM⟩
      obtain _ | k2075 := k2075
      · exact nomatch ((impl_CoinsFault.l0_z x0 a2039).symm.trans ho2003)
      replace ho2003 := (impl_CoinsFault.l0_s x0 k2075 a2039).symm.trans ho2003
      refine run_seq ?_
      refine run_region rfl ?_
      refine ops_ex rfl (guard_none rfl) rfl rfl (ex_lss rfl rfl rfl) ?_
      refine ops_nil ?_
      refine at_then ?_
      refine run_seq ?_
      refine run_cond (b := (decide (a2039 < (x0.length : Int)))) rfl (fun hb2077 => ?_) (fun hb2077 => ?_)
      · replace ho2003 := cond_t hb2077 ho2003
        refine run_skip ?_
        refine at_then ?_
        refine run_seq ?_
        refine run_block ?_
        refine run_seq ?_
        obtain ⟨e2078, ho2003⟩ := chk_some ho2003
        refine run_region rfl ?_
        refine ops_ex rfl (guard_none rfl) rfl rfl (ex_move rfl rfl) ?_
        obtain ⟨kv2080, hc2079, hk2081⟩ : ∃ u, CellsAt _ (sb p0) (so p0 + (a2039).toNat * 8) [(.int .i64 ((gt x0 a2039).fRef.fTx)), (.int .i64 ((gt x0 a2039).fRef.fAt)), (.int .i64 ((gt x0 a2039).fOut.fValue)), u, (.int .i64 ((gt x0 a2039).fOut.fRule.fNeed)), (.int .i64 ((gt x0 a2039).fOut.fRule.fAfter)), (.int .i64 ((gt x0 a2039).fHeight)), (.bool ((gt x0 a2039).fMined))] ∧ RdS kInt _ u ((gt x0 a2039).fOut.fRule.fKeys) := rd_with1 hp0 e2078
        refine ops_ex rfl (guard_none rfl) rfl rfl (ex_indexAddr (d := kCoin) rfl rfl rfl Try.underlying44 tsz123 hp0 (idx_lo e2078) (idx_hi e2078)) ?_
        refine ops_ex rfl (guard_none rfl) rfl rfl (ex_loadN (cs := [(.int .i64 ((gt x0 a2039).fRef.fTx)), (.int .i64 ((gt x0 a2039).fRef.fAt)), (.int .i64 ((gt x0 a2039).fOut.fValue)), kv2080, (.int .i64 ((gt x0 a2039).fOut.fRule.fNeed)), (.int .i64 ((gt x0 a2039).fOut.fRule.fAfter)), (.int .i64 ((gt x0 a2039).fHeight)), (.bool ((gt x0 a2039).fMined))]) rfl rfl Try.underlying123 rfl tsz123 rfl ((HM.at_ hc2079).sub 0 8 rfl)) ?_
        refine ops_does rfl (guard_none rfl) rfl rfl (does_alloc (cs := [.int .i64 0, .int .i64 0, .int .i64 0, .slice none 0 0, .int .i64 0, .int .i64 0, .int .i64 0, .bool false]) rfl tz123 rfl HM) ?_
        rintro _ w2085 ⟨b2082, rfl, HM⟩
        refine ops_ex rfl (guard_none rfl) rfl rfl (ex_assign rfl rfl) ?_
        refine ops_doesS rfl (guard_none rfl) rfl (does_store (vs := [.int .i64 ((gt x0 a2039).fRef.fTx), .int .i64 ((gt x0 a2039).fRef.fAt), .int .i64 ((gt x0 a2039).fOut.fValue), kv2080, .int .i64 ((gt x0 a2039).fOut.fRule.fNeed), .int .i64 ((gt x0 a2039).fOut.fRule.fAfter), .int .i64 ((gt x0 a2039).fHeight), .bool ((gt x0 a2039).fMined)]) (cs' := [.int .i64 ((gt x0 a2039).fRef.fTx), .int .i64 ((gt x0 a2039).fRef.fAt), .int .i64 ((gt x0 a2039).fOut.fValue), kv2080, .int .i64 ((gt x0 a2039).fOut.fRule.fNeed), .int .i64 ((gt x0 a2039).fOut.fRule.fAfter), .int .i64 ((gt x0 a2039).fHeight), .bool ((gt x0 a2039).fMined)]) rfl rfl rfl rfl tsz123 (Ones.int (Ones.int (Ones.int (Ones.rd hk2081 (Ones.int (Ones.int (Ones.int (Ones.bool Ones.nil)))))))) rfl rfl HM) ?_
        rintro w2086 HM
        refine ops_nil ?_
        refine at_then ?_
        refine run_seq ?_
        refine run_seq ?_
        obtain ⟨t2094, h2095, ho2003⟩ := bind_some ho2003
        obtain ⟨t2096, h2097, ho2003⟩ := bind_some ho2003
        obtain ⟨t2098, h2099, ho2003⟩ := bind_some ho2003
        refine run_meet (fun ρ_ w_ => ρ_ = [(0, p0), (9, p0), (10, .int .i64 (x0.length : Int)), (11, .int .i64 a2039), (4, .pointer (some ⟨b2082, 0, none⟩)), (3, .int .i64 a2039), (32, .bool (((!t2094) || (!t2096)) || (!t2098)))] ∧ Mem w [] w_ [box b2082 123 [.int .i64 ((gt x0 a2039).fRef.fTx), .int .i64 ((gt x0 a2039).fRef.fAt), .int .i64 ((gt x0 a2039).fOut.fValue), kv2080, .int .i64 ((gt x0 a2039).fOut.fRule.fNeed), .int .i64 ((gt x0 a2039).fOut.fRule.fAfter), .int .i64 ((gt x0 a2039).fHeight), .bool ((gt x0 a2039).fMined)]]) ?_ ?_
        · skip
          refine run_region rfl ?_
          refine ops_ex rfl (guard_none rfl) rfl rfl (ex_fieldAddr (off' := 0) rfl rfl Try.underlying123 rfl tsz54 rfl) ?_
          refine ops_ex rfl (guard_none rfl) rfl rfl (ex_loadN (cs := [(.int .i64 ((gt x0 a2039).fRef.fTx)), (.int .i64 ((gt x0 a2039).fRef.fAt))]) rfl rfl Try.underlying54 rfl tsz54 rfl ((HM.box_at 0 rfl).sub 0 2 rfl)) ?_
          refine ops_does rfl (guard_none rfl) rfl rfl (does_callk rfl callok123 rfl (impl_isRef.calls (x0 := (gt x0 a2039).fRef) h2095)) ?_
          rintro _ w2100 ⟨rfl, hn⟩
          replace HM : Mem w [] w2100 [box b2082 123 [.int .i64 ((gt x0 a2039).fRef.fTx), .int .i64 ((gt x0 a2039).fRef.fAt), .int .i64 ((gt x0 a2039).fOut.fValue), kv2080, .int .i64 ((gt x0 a2039).fOut.fRule.fNeed), .int .i64 ((gt x0 a2039).fOut.fRule.fAfter), .int .i64 ((gt x0 a2039).fHeight), .bool ((gt x0 a2039).fMined)]] := HM.call hn
          refine ops_ex rfl (guard_none rfl) rfl rfl (ex_not rfl rfl) ?_
          refine ops_ex rfl (guard_none rfl) rfl rfl (ex_move rfl rfl) ?_
          refine bool_cases (!t2094) (fun hg2101 => ?_) (fun hg2101 => ?_)
          · skip
            refine ops_off rfl (guard_off rfl rfl rfl hg2101) rfl rfl ?_
            refine ops_off rfl (guard_off rfl rfl rfl hg2101) rfl rfl ?_
            refine ops_off rfl (guard_off rfl rfl rfl hg2101) rfl rfl ?_
            refine ops_off rfl (guard_off rfl rfl rfl hg2101) rfl rfl ?_
            have hg2102 : ((!t2094) || (!t2096)) = true := by simp only [hg2101, Bool.and_true, Bool.true_and, Bool.and_false, Bool.false_and, Bool.or_true, Bool.true_or, Bool.or_false, Bool.false_or, Bool.not_true, Bool.not_false, Bool.not_not]
            refine ops_ex (v := .bool ((!t2094) || (!t2096))) rfl (guard_none rfl) rfl rfl (ex_por_t rfl rfl hg2101) ?_
            refine ops_ex rfl (guard_none rfl) rfl rfl (ex_move rfl rfl) ?_
            refine ops_off rfl (guard_off rfl rfl rfl hg2102) rfl rfl ?_
            refine ops_off rfl (guard_off rfl rfl rfl hg2102) rfl rfl ?_
            refine ops_off rfl (guard_off rfl rfl rfl hg2102) rfl rfl ?_
            refine ops_off rfl (guard_off rfl rfl rfl hg2102) rfl rfl ?_
            refine ops_off rfl (guard_off rfl rfl rfl hg2102) rfl rfl ?_
            have hg2103 : (((!t2094) || (!t2096)) || (!t2098)) = true := by simp only [hg2102, Bool.and_true, Bool.true_and, Bool.and_false, Bool.false_and, Bool.or_true, Bool.true_or, Bool.or_false, Bool.false_or, Bool.not_true, Bool.not_false, Bool.not_not]
            refine ops_ex (v := .bool (((!t2094) || (!t2096)) || (!t2098))) rfl (guard_none rfl) rfl rfl (ex_por_t rfl rfl hg2102) ?_
            refine ops_nil ?_
            exact at_meet [(0, p0), (9, p0), (10, .int .i64 (x0.length : Int)), (11, .int .i64 a2039), (4, .pointer (some ⟨b2082, 0, none⟩)), (3, .int .i64 a2039), (32, .bool (((!t2094) || (!t2096)) || (!t2098)))] ⟨rfl, HM⟩ (Sub.cons rfl (Sub.cons rfl (Sub.cons rfl (Sub.cons rfl (Sub.cons rfl (Sub.cons rfl (Sub.cons rfl Sub.nil)))))))
          · skip
            refine ops_ex rfl (guard_on rfl rfl rfl hg2101) rfl rfl (ex_fieldAddr (off' := 6) rfl rfl Try.underlying123 rfl tsz2 rfl) ?_
            refine ops_ex rfl (guard_on rfl rfl rfl hg2101) rfl rfl (ex_load1 rfl rfl Try.underlying2 rfl ((HM.box_at 0 rfl) 6 _ rfl)) ?_
            refine ops_does rfl (guard_on rfl rfl rfl hg2101) rfl rfl (does_callk rfl callok124 rfl (impl_isHeight.calls (x0 := (gt x0 a2039).fHeight) (cond_t (not_mk hg2101) h2097))) ?_
            rintro _ w2104 ⟨rfl, hn⟩
            replace HM : Mem w [] w2104 [box b2082 123 [.int .i64 ((gt x0 a2039).fRef.fTx), .int .i64 ((gt x0 a2039).fRef.fAt), .int .i64 ((gt x0 a2039).fOut.fValue), kv2080, .int .i64 ((gt x0 a2039).fOut.fRule.fNeed), .int .i64 ((gt x0 a2039).fOut.fRule.fAfter), .int .i64 ((gt x0 a2039).fHeight), .bool ((gt x0 a2039).fMined)]] := HM.call hn
            refine ops_ex rfl (guard_on rfl rfl rfl hg2101) rfl rfl (ex_not rfl rfl) ?_
            refine ops_ex (v := .bool ((!t2094) || (!t2096))) rfl (guard_none rfl) rfl rfl (ex_por_f rfl rfl hg2101 rfl) ?_
            refine ops_ex rfl (guard_none rfl) rfl rfl (ex_move rfl rfl) ?_
            refine bool_cases ((!t2094) || (!t2096)) (fun hg2105 => ?_) (fun hg2105 => ?_)
            · skip
              refine ops_off rfl (guard_off rfl rfl rfl hg2105) rfl rfl ?_
              refine ops_off rfl (guard_off rfl rfl rfl hg2105) rfl rfl ?_
              refine ops_off rfl (guard_off rfl rfl rfl hg2105) rfl rfl ?_
              refine ops_off rfl (guard_off rfl rfl rfl hg2105) rfl rfl ?_
              refine ops_off rfl (guard_off rfl rfl rfl hg2105) rfl rfl ?_
              have hg2106 : (((!t2094) || (!t2096)) || (!t2098)) = true := by simp only [hg2105, Bool.and_true, Bool.true_and, Bool.and_false, Bool.false_and, Bool.or_true, Bool.true_or, Bool.or_false, Bool.false_or, Bool.not_true, Bool.not_false, Bool.not_not]
              refine ops_ex (v := .bool (((!t2094) || (!t2096)) || (!t2098))) rfl (guard_none rfl) rfl rfl (ex_por_t rfl rfl hg2105) ?_
              refine ops_nil ?_
              exact at_meet [(0, p0), (9, p0), (10, .int .i64 (x0.length : Int)), (11, .int .i64 a2039), (4, .pointer (some ⟨b2082, 0, none⟩)), (3, .int .i64 a2039), (32, .bool (((!t2094) || (!t2096)) || (!t2098)))] ⟨rfl, HM⟩ (Sub.cons rfl (Sub.cons rfl (Sub.cons rfl (Sub.cons rfl (Sub.cons rfl (Sub.cons rfl (Sub.cons rfl Sub.nil)))))))
            · skip
              refine ops_ex rfl (guard_on rfl rfl rfl hg2105) rfl rfl (ex_fieldAddr (off' := 2) rfl rfl Try.underlying123 rfl tsz121 rfl) ?_
              refine ops_ex rfl (guard_on rfl rfl rfl hg2105) rfl rfl (ex_fieldAddr (off' := 2) rfl rfl Try.underlying121 rfl tsz2 rfl) ?_
              refine ops_ex rfl (guard_on rfl rfl rfl hg2105) rfl rfl (ex_load1 rfl rfl Try.underlying2 rfl ((HM.box_at 0 rfl) 2 _ rfl)) ?_
              refine ops_does rfl (guard_on rfl rfl rfl hg2105) rfl rfl (does_callk rfl callok112 rfl (impl_within.calls (x0 := (gt x0 a2039).fOut.fValue) (x1 := 1) (x2 := 1000000) (cond_t (not_mk hg2105) h2099))) ?_
              rintro _ w2107 ⟨rfl, hn⟩
              replace HM : Mem w [] w2107 [box b2082 123 [.int .i64 ((gt x0 a2039).fRef.fTx), .int .i64 ((gt x0 a2039).fRef.fAt), .int .i64 ((gt x0 a2039).fOut.fValue), kv2080, .int .i64 ((gt x0 a2039).fOut.fRule.fNeed), .int .i64 ((gt x0 a2039).fOut.fRule.fAfter), .int .i64 ((gt x0 a2039).fHeight), .bool ((gt x0 a2039).fMined)]] := HM.call hn
              refine ops_ex rfl (guard_on rfl rfl rfl hg2105) rfl rfl (ex_not rfl rfl) ?_
              refine ops_ex (v := .bool (((!t2094) || (!t2096)) || (!t2098))) rfl (guard_none rfl) rfl rfl (ex_por_f rfl rfl hg2105 rfl) ?_
              refine ops_nil ?_
              exact at_meet [(0, p0), (9, p0), (10, .int .i64 (x0.length : Int)), (11, .int .i64 a2039), (4, .pointer (some ⟨b2082, 0, none⟩)), (3, .int .i64 a2039), (32, .bool (((!t2094) || (!t2096)) || (!t2098)))] ⟨rfl, HM⟩ (Sub.cons rfl (Sub.cons rfl (Sub.cons rfl (Sub.cons rfl (Sub.cons rfl (Sub.cons rfl (Sub.cons rfl Sub.nil)))))))
        · rintro _ w2108 ⟨rfl, HM⟩
          refine at_then ?_
          refine run_cond (b := (((!t2094) || (!t2096)) || (!t2098))) rfl (fun hb2109 => ?_) (fun hb2109 => ?_)
          · replace ho2003 := cond_t hb2109 ho2003
            refine run_seq ?_
            refine run_region rfl ?_
            refine ops_ex rfl (guard_none rfl) rfl rfl (ex_assign rfl rfl) ?_
            refine ops_nil ?_
            refine at_then ?_
            refine run_ret ?_
            refine at_then_ret ?_
            refine at_block_ret ?_
            refine at_then_ret ?_
            refine at_then_ret ?_
            refine at_block_ret ?_
            refine at_then_ret ?_
            replace HM := (HM.front 0 rfl rfl).drop
            have hR := Option.some.inj ho2003
            subst hR
            have hT := thn_inl H
            have hR := Option.some.inj hT
            subst hR
            exact at_ret1 rfl rfl ⟨_, rfl, rfl, HM⟩
          · replace ho2003 := cond_f hb2109 ho2003
            refine run_skip ?_
            refine at_then ?_
            refine run_seq ?_
            refine run_seq ?_
            obtain ⟨t2113, h2114, ho2003⟩ := bind_some ho2003
            refine run_region rfl ?_
            refine ops_ex rfl (guard_none rfl) rfl rfl (ex_fieldAddr (off' := 2) rfl rfl Try.underlying123 rfl tsz121 rfl) ?_
            refine ops_ex rfl (guard_none rfl) rfl rfl (ex_fieldAddr (off' := 3) rfl rfl Try.underlying121 rfl tsz119 rfl) ?_
            refine ops_ex rfl (guard_none rfl) rfl rfl (ex_loadN (cs := [kv2080, (.int .i64 ((gt x0 a2039).fOut.fRule.fNeed)), (.int .i64 ((gt x0 a2039).fOut.fRule.fAfter))]) rfl rfl Try.underlying119 rfl tsz119 rfl ((HM.box_at 0 rfl).sub 3 3 rfl)) ?_
            refine ops_does rfl (guard_none rfl) rfl rfl (does_callk rfl callok125 rfl (impl_RuleFault.calls (x0 := (gt x0 a2039).fOut.fRule) (HM.rd hk2081) h2114)) ?_
            rintro _ w2115 ⟨rfl, hn⟩
            replace HM : Mem w [] w2115 [box b2082 123 [.int .i64 ((gt x0 a2039).fRef.fTx), .int .i64 ((gt x0 a2039).fRef.fAt), .int .i64 ((gt x0 a2039).fOut.fValue), kv2080, .int .i64 ((gt x0 a2039).fOut.fRule.fNeed), .int .i64 ((gt x0 a2039).fOut.fRule.fAfter), .int .i64 ((gt x0 a2039).fHeight), .bool ((gt x0 a2039).fMined)]] := HM.call hn
            refine ops_ex rfl (guard_none rfl) rfl rfl (ex_assign rfl rfl) ?_
            refine ops_nil ?_
            refine at_then ?_
            refine run_seq ?_
            refine run_region rfl ?_
            refine ops_ex rfl (guard_none rfl) rfl rfl (ex_move rfl rfl) ?_
            refine ops_ex rfl (guard_none rfl) rfl rfl (ex_neq rfl rfl rfl) ?_
            refine ops_nil ?_
            refine at_then ?_
            refine run_cond (b := (t2113 != 0)) rfl (fun hb2116 => ?_) (fun hb2116 => ?_)
            · replace ho2003 := cond_t hb2116 ho2003
              refine run_seq ?_
              refine run_region rfl ?_
              refine ops_ex rfl (guard_none rfl) rfl rfl (ex_move rfl rfl) ?_
              refine ops_ex rfl (guard_none rfl) rfl rfl (ex_assign rfl rfl) ?_
              refine ops_nil ?_
              refine at_then ?_
              refine run_ret ?_
              refine at_then_ret ?_
              refine at_block_ret ?_
              refine at_then_ret ?_
              refine at_then_ret ?_
              refine at_block_ret ?_
              refine at_then_ret ?_
              replace HM := (HM.front 0 rfl rfl).drop
              have hR := Option.some.inj ho2003
              subst hR
              have hT := thn_inl H
              have hR := Option.some.inj hT
              subst hR
              exact at_ret1 rfl rfl ⟨_, rfl, rfl, HM⟩
            · replace ho2003 := cond_f hb2116 ho2003
              refine run_skip ?_
              refine at_then ?_
              refine run_seq ?_
              obtain ⟨e2117, ho2003⟩ := chk_some ho2003
              obtain ⟨t2121, h2122, ho2003⟩ := bind_some ho2003
              refine run_meet (fun ρ_ w_ => ρ_ = [(0, p0), (9, p0), (10, .int .i64 (x0.length : Int)), (11, .int .i64 a2039), (53, .bool ((decide (0 < a2039)) && (decide (0 ≤ t2121))))] ∧ Mem w [] w_ []) ?_ ?_
              · skip
                refine run_drawf (fun w_ => Mem w [] w_ [box b2082 123 [.int .i64 ((gt x0 a2039).fRef.fTx), .int .i64 ((gt x0 a2039).fRef.fAt), .int .i64 ((gt x0 a2039).fOut.fValue), kv2080, .int .i64 ((gt x0 a2039).fOut.fRule.fNeed), .int .i64 ((gt x0 a2039).fOut.fRule.fAfter), .int .i64 ((gt x0 a2039).fHeight), .bool ((gt x0 a2039).fMined)]]) [(0, true), (1, true), (2, true), (3, true), (4, true), (5, true), (6, true), (7, true), (8, true), (9, true), (10, true), (11, false), (12, true), (13, true)] mixed rfl rfl (by kernel_rfl) ?_
                replace HM := HM.grow (fr_drew _)
                have hS := Mem.suf (M := []) HM
                refine drwp_take rfl (guard_none rfl) rfl rfl (fun w_ hS_ => (ex_move rfl rfl)) hS ?_
                refine drwp_take rfl (guard_none rfl) rfl rfl (fun w_ hS_ => (ex_gtr rfl rfl rfl)) hS ?_
                refine drwp_take rfl (guard_none rfl) rfl rfl (fun w_ hS_ => (ex_move rfl rfl)) hS ?_
                refine bool_cases (decide (0 < a2039)) (fun hg2123 => ?_) (fun hg2123 => ?_)
                · skip
                  refine drwp_take rfl (guard_on rfl rfl rfl hg2123) rfl rfl (fun w_ hS_ => (ex_move rfl rfl)) hS ?_
                  refine drwp_take rfl (guard_on rfl rfl rfl hg2123) rfl rfl (fun w_ hS_ => (ex_move rfl rfl)) hS ?_
                  refine drwp_take rfl (guard_on rfl rfl rfl hg2123) rfl rfl (fun w_ hS_ => (ex_sub rfl rfl rfl)) hS ?_
                  obtain ⟨kv2119, hc2118, hk2120⟩ : ∃ u, CellsAt _ (sb p0) (so p0 + (wrap64 (a2039 - 1)).toNat * 8) [(.int .i64 ((gt x0 (wrap64 (a2039 - 1))).fRef.fTx)), (.int .i64 ((gt x0 (wrap64 (a2039 - 1))).fRef.fAt)), (.int .i64 ((gt x0 (wrap64 (a2039 - 1))).fOut.fValue)), u, (.int .i64 ((gt x0 (wrap64 (a2039 - 1))).fOut.fRule.fNeed)), (.int .i64 ((gt x0 (wrap64 (a2039 - 1))).fOut.fRule.fAfter)), (.int .i64 ((gt x0 (wrap64 (a2039 - 1))).fHeight)), (.bool ((gt x0 (wrap64 (a2039 - 1))).fMined))] ∧ RdS kInt _ u ((gt x0 (wrap64 (a2039 - 1))).fOut.fRule.fKeys) := rd_with1 hp0 (or_t e2117 hg2123)
                  refine drwp_take rfl (guard_on rfl rfl rfl hg2123) rfl rfl (fun w_ hS_ => (ex_indexAddr (d := kCoin) rfl rfl rfl Try.underlying44 tsz123 hp0 (idx_lo (or_t e2117 hg2123)) (idx_hi (or_t e2117 hg2123)))) hS ?_
                  refine drwp_take rfl (guard_on rfl rfl rfl hg2123) rfl rfl (fun w_ hS_ => (ex_fieldAddr (off' := so p0 + (wrap64 (a2039 - 1)).toNat * 8) rfl rfl Try.underlying123 rfl tsz54 rfl)) hS ?_
                  refine drwp_take rfl (guard_on rfl rfl rfl hg2123) rfl rfl (fun w_ hS_ => (ex_loadN (cs := [(.int .i64 ((gt x0 (wrap64 (a2039 - 1))).fRef.fTx)), (.int .i64 ((gt x0 (wrap64 (a2039 - 1))).fRef.fAt))]) rfl rfl Try.underlying54 rfl tsz54 rfl ((hS_.at_ hc2118).sub 0 2 rfl))) hS ?_
                  refine drwp_take rfl (guard_on rfl rfl rfl hg2123) rfl rfl (fun w_ hS_ => (ex_fieldAddr (off' := 0) rfl rfl Try.underlying123 rfl tsz54 rfl)) hS ?_
                  refine drwp_take rfl (guard_on rfl rfl rfl hg2123) rfl rfl (fun w_ hS_ => (ex_loadN (cs := [(.int .i64 ((gt x0 a2039).fRef.fTx)), (.int .i64 ((gt x0 a2039).fRef.fAt))]) rfl rfl Try.underlying54 rfl tsz54 rfl ((hS_.box_at 0 rfl).sub 0 2 rfl))) hS ?_
                  refine drwp_one rfl (guard_on rfl rfl rfl hg2123) rfl rfl (does_callk rfl callok126 rfl (impl_compareRefs.calls (x0 := (gt x0 (wrap64 (a2039 - 1))).fRef) (x1 := (gt x0 a2039).fRef) (cond_t hg2123 h2122))) ?_
                  rintro _ w2124 ⟨rfl, hn⟩
                  replace HM : Mem w [] w2124 [box b2082 123 [.int .i64 ((gt x0 a2039).fRef.fTx), .int .i64 ((gt x0 a2039).fRef.fAt), .int .i64 ((gt x0 a2039).fOut.fValue), kv2080, .int .i64 ((gt x0 a2039).fOut.fRule.fNeed), .int .i64 ((gt x0 a2039).fOut.fRule.fAfter), .int .i64 ((gt x0 a2039).fHeight), .bool ((gt x0 a2039).fMined)]] := HM.call hn
                  refine ⟨Mem.suf (M := []) HM, ?_⟩
                  have hS := Mem.suf (M := []) HM
                  refine drwp_take rfl (guard_on rfl rfl rfl hg2123) rfl rfl (fun w_ hS_ => (ex_geq rfl rfl rfl)) hS ?_
                  refine drwp_take (v := .bool ((decide (0 < a2039)) && (decide (0 ≤ t2121)))) rfl (guard_none rfl) rfl rfl (fun w_ hS_ => (ex_pand_t rfl rfl hg2123 rfl)) hS ?_
                  refine drwp_done ?_
                  replace HM := (HM.front 0 rfl rfl).drop
                  exact at_meet [(0, p0), (9, p0), (10, .int .i64 (x0.length : Int)), (11, .int .i64 a2039), (53, .bool ((decide (0 < a2039)) && (decide (0 ≤ t2121))))] ⟨rfl, HM⟩ (Sub.cons rfl (Sub.cons rfl (Sub.cons rfl (Sub.cons rfl (Sub.cons rfl Sub.nil)))))
                · skip
                  refine drwp_off rfl (guard_off rfl rfl rfl hg2123) rfl rfl hS ?_
                  refine drwp_off rfl (guard_off rfl rfl rfl hg2123) rfl rfl hS ?_
                  refine drwp_off rfl (guard_off rfl rfl rfl hg2123) rfl rfl hS ?_
                  refine drwp_off rfl (guard_off rfl rfl rfl hg2123) rfl rfl hS ?_
                  refine drwp_off rfl (guard_off rfl rfl rfl hg2123) rfl rfl hS ?_
                  refine drwp_off rfl (guard_off rfl rfl rfl hg2123) rfl rfl hS ?_
                  refine drwp_off rfl (guard_off rfl rfl rfl hg2123) rfl rfl hS ?_
                  refine drwp_off rfl (guard_off rfl rfl rfl hg2123) rfl rfl hS ?_
                  refine drwp_off1 rfl (guard_off rfl rfl rfl hg2123) rfl rfl ⟨hS, ?_⟩
                  refine drwp_off rfl (guard_off rfl rfl rfl hg2123) rfl rfl hS ?_
                  have hg2125 : ((decide (0 < a2039)) && (decide (0 ≤ t2121))) = false := by simp only [hg2123, Bool.and_true, Bool.true_and, Bool.and_false, Bool.false_and, Bool.or_true, Bool.true_or, Bool.or_false, Bool.false_or, Bool.not_true, Bool.not_false, Bool.not_not]
                  refine drwp_take (v := .bool ((decide (0 < a2039)) && (decide (0 ≤ t2121)))) rfl (guard_none rfl) rfl rfl (fun w_ hS_ => (ex_pand_f rfl rfl hg2123)) hS ?_
                  refine drwp_done ?_
                  replace HM := (HM.front 0 rfl rfl).drop
                  exact at_meet [(0, p0), (9, p0), (10, .int .i64 (x0.length : Int)), (11, .int .i64 a2039), (53, .bool ((decide (0 < a2039)) && (decide (0 ≤ t2121))))] ⟨rfl, HM⟩ (Sub.cons rfl (Sub.cons rfl (Sub.cons rfl (Sub.cons rfl (Sub.cons rfl Sub.nil)))))
              · rintro _ w2126 ⟨rfl, HM⟩
                refine at_then ?_
                refine run_cond (b := ((decide (0 < a2039)) && (decide (0 ≤ t2121)))) rfl (fun hb2127 => ?_) (fun hb2127 => ?_)
                · replace ho2003 := cond_t hb2127 ho2003
                  refine run_seq ?_
                  refine run_region rfl ?_
                  refine ops_ex rfl (guard_none rfl) rfl rfl (ex_assign rfl rfl) ?_
                  refine ops_nil ?_
                  refine at_then ?_
                  refine run_ret ?_
                  refine at_block_ret ?_
                  refine at_then_ret ?_
                  refine at_then_ret ?_
                  refine at_block_ret ?_
                  refine at_then_ret ?_
                  have hR := Option.some.inj ho2003
                  subst hR
                  have hT := thn_inl H
                  have hR := Option.some.inj hT
                  subst hR
                  exact at_ret1 rfl rfl ⟨_, rfl, rfl, HM⟩
                · replace ho2003 := cond_f hb2127 ho2003
                  refine run_skip ?_
                  refine at_block ?_
                  refine at_then ?_
                  refine run_region rfl ?_
                  refine ops_ex rfl (guard_none rfl) rfl rfl (ex_add rfl rfl rfl) ?_
                  refine ops_ex rfl (guard_none rfl) rfl rfl (ex_move rfl rfl) ?_
                  refine ops_nil ?_
                  exact at_again k2075 (ρ1 := [(0, p0), (9, p0), (10, .int .i64 (x0.length : Int)), (11, .int .i64 (wrap64 (a2039 + 1)))]) (Nat.lt_succ_self _) ⟨_, ho2003, rfl, HM⟩ (Sub.cons rfl (Sub.cons rfl (Sub.cons rfl (Sub.cons rfl Sub.nil))))
      · replace ho2003 := cond_f hb2077 ho2003
        refine run_exit ?_
        refine at_then_exit ?_
        refine at_then_exit ?_
        refine at_block_exit ?_
        exact at_mid (ρ' := []) ⟨(Option.some.inj ho2003), rfl, HM⟩ Sub.nil
    · rintro _ w2128 ⟨rfl, rfl, HM⟩
      replace H := (thn_inr H)
      refine run_seq ?_
      refine run_region rfl ?_
      refine ops_ex rfl (guard_none rfl) rfl rfl (ex_assign rfl rfl) ?_
      refine ops_nil ?_
      refine at_then ?_
      refine run_ret ?_
      have hR := Option.some.inj H
      subst hR
      exact at_ret1 rfl rfl ⟨_, rfl, rfl, HM⟩
end Go.Proofs.Ytigojhglkilodaa.Zk
