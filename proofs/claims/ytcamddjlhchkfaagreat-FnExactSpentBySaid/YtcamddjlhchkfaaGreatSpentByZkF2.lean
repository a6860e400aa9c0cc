/- What functions of the program compute, each as a plain function, and that they do. Conditions: as each theorem states them. -/
import Derived.Test.YtcamddjlhchkfaaGreatSpentByZkF1
namespace Go.Proofs.YtcamddjlhchkfaaGreat.Zk
open Go Go.RowKit Go.IntWalk Go.Proofs
set_option linter.unusedVariables false
set_option linter.unusedSimpArgs false
set_option maxRecDepth 100000
set_option maxHeartbeats 4000000
def spec_l4Ahead.f (k : Nat) (x0 : Ref) (x1 : Ref) : Option Bool := (bif (x0.fTx != x1.fTx) then some (decide (x0.fTx < x1.fTx)) else some (decide (x0.fAt < x1.fAt)))
theorem spec_l4Ahead.calls {k : Nat} {x0 : Ref} {x1 : Ref}  {w : World}  {r : Bool} (H : spec_l4Ahead.f k x0 x1 = some r) :
    Calls Tryz.prog 73 ([.agg #[(.int .i64 x0.fTx), (.int .i64 x0.fAt)], .agg #[(.int .i64 x1.fTx), (.int .i64 x1.fAt)]] : List Value).toArray w (fun e w_ => ∃ v, e = .returned v ∧ v = (.bool r) ∧ Mem w [] w_ []) := by
  have HM := Mem.start w
  refine calls_run (N := 20) Tryz.func73 rfl rfl rfl rfl ?_
  unfold spec_l4Ahead.f at H
  refine run_seq ?_
  refine run_region rfl ?_
  refine ops_does rfl (guard_none rfl) rfl rfl (does_box (cs := [.int .i64 x0.fTx, .int .i64 x0.fAt]) rfl rfl rfl HM) ?_
  rintro _ w1160 ⟨b1154, rfl, HM⟩
  refine ops_does rfl (guard_none rfl) rfl rfl (does_box (cs := [.int .i64 x1.fTx, .int .i64 x1.fAt]) rfl rfl rfl HM) ?_
  rintro _ w1161 ⟨b1157, rfl, HM⟩
  refine ops_ex rfl (guard_none rfl) rfl rfl (ex_assign rfl rfl) ?_
  refine ops_nil ?_
  refine at_then ?_
  refine run_seq ?_
  refine run_seq ?_
  refine run_region rfl ?_
  refine ops_ex rfl (guard_none rfl) rfl rfl (ex_fieldAddr (off' := 0) rfl rfl Tryz.underlying56 rfl tsz2 rfl) ?_
  refine ops_ex rfl (guard_none rfl) rfl rfl (ex_load1 rfl rfl Tryz.underlying2 rfl ((HM.box_at 1 rfl) 0 _ rfl)) ?_
  refine ops_ex rfl (guard_none rfl) rfl rfl (ex_fieldAddr (off' := 0) rfl rfl Tryz.underlying56 rfl tsz2 rfl) ?_
  refine ops_ex rfl (guard_none rfl) rfl rfl (ex_load1 rfl rfl Tryz.underlying2 rfl ((HM.box_at 0 rfl) 0 _ rfl)) ?_
  refine ops_ex rfl (guard_none rfl) rfl rfl (ex_neq rfl rfl rfl) ?_
  refine ops_nil ?_
  refine at_then ?_
  refine run_cond (b := (x0.fTx != x1.fTx)) rfl (fun hb1163 => ?_) (fun hb1163 => ?_)
  · replace H := cond_t hb1163 H
    refine run_seq ?_
    refine run_region rfl ?_
    refine ops_ex rfl (guard_none rfl) rfl rfl (ex_fieldAddr (off' := 0) rfl rfl Tryz.underlying56 rfl tsz2 rfl) ?_
    refine ops_ex rfl (guard_none rfl) rfl rfl (ex_load1 rfl rfl Tryz.underlying2 rfl ((HM.box_at 1 rfl) 0 _ rfl)) ?_
    refine ops_ex rfl (guard_none rfl) rfl rfl (ex_fieldAddr (off' := 0) rfl rfl Tryz.underlying56 rfl tsz2 rfl) ?_
    refine ops_ex rfl (guard_none rfl) rfl rfl (ex_load1 rfl rfl Tryz.underlying2 rfl ((HM.box_at 0 rfl) 0 _ rfl)) ?_
    refine ops_ex rfl (guard_none rfl) rfl rfl (ex_lss rfl rfl rfl) ?_
    refine ops_ex rfl (guard_none rfl) rfl rfl (ex_assign rfl rfl) ?_
    refine ops_nil ?_
    refine at_then ?_
    refine run_ret ?_
    refine at_then_ret ?_
    replace HM := (HM.front 0 rfl rfl).drop
    replace HM := (HM.front 0 rfl rfl).drop
    have hR := Option.some.inj H
    subst hR
    exact at_ret1 rfl rfl ⟨_, rfl, rfl, HM⟩
  · replace H := cond_f hb1163 H
    refine run_skip ?_
    refine at_then ?_
    refine run_seq ?_
    refine run_region rfl ?_
    refine ops_ex rfl (guard_none rfl) rfl rfl (ex_fieldAddr (off' := 1) rfl rfl Tryz.underlying56 rfl tsz2 rfl) ?_
    refine ops_ex rfl (guard_none rfl) rfl rfl (ex_load1 rfl rfl Tryz.underlying2 rfl ((HM.box_at 1 rfl) 1 _ rfl)) ?_
    refine ops_ex rfl (guard_none rfl) rfl rfl (ex_fieldAddr (off' := 1) rfl rfl Tryz.underlying56 rfl tsz2 rfl) ?_
    refine ops_ex rfl (guard_none rfl) rfl rfl (ex_load1 rfl rfl Tryz.underlying2 rfl ((HM.box_at 0 rfl) 1 _ rfl)) ?_
    refine ops_ex rfl (guard_none rfl) rfl rfl (ex_lss rfl rfl rfl) ?_
    refine ops_ex rfl (guard_none rfl) rfl rfl (ex_assign rfl rfl) ?_
    refine ops_nil ?_
    refine at_then ?_
    refine run_ret ?_
    replace HM := (HM.front 0 rfl rfl).drop
    replace HM := (HM.front 0 rfl rfl).drop
    have hR := Option.some.inj H
    subst hR
    exact at_ret1 rfl rfl ⟨_, rfl, rfl, HM⟩

def spec_l4Fault.l0 (x0 : List Coin) : Nat → Int → Option (Int ⊕ Unit)
  | 0, _ => none
  | k + 1, a1487 => (bif (decide (a1487 < (x0.length : Int))) then (chk (idxOk a1487 x0.length) ((spec_l3Ref.f k ((gt x0 a1487).fRef)).bind fun t1560 => (chk (!(!(!t1560)) || (idxOk a1487 x0.length)) ((bif (!(!t1560)) then spec_l2Height.f k ((gt x0 a1487).fHeight) else some default).bind fun t1566 => (bif ((!t1560) || (!t1566)) then some (.inl 3) else (chk (idxOk a1487 x0.length) ((spec_l4Out.f k ((gt x0 a1487).fOut)).bind fun t1585 => (bif (t1585 != 0) then some (.inl t1585) else (chk (!(decide (0 < a1487)) || (idxOk (wrap64 (a1487 - 1)) x0.length)) (chk (!(decide (0 < a1487)) || (idxOk a1487 x0.length)) ((bif (decide (0 < a1487)) then spec_l4Ahead.f k ((gt x0 (wrap64 (a1487 - 1))).fRef) ((gt x0 a1487).fRef) else some default).bind fun t1597 => (bif ((decide (0 < a1487)) && (!t1597)) then some (.inl 1) else spec_l4Fault.l0 x0 k (wrap64 (a1487 + 1)))))))))))))) else some (.inr ()))
theorem spec_l4Fault.l0_z (x0 : List Coin) (a1487 : Int) : spec_l4Fault.l0 x0 0 a1487 = none := rfl
theorem spec_l4Fault.l0_s (x0 : List Coin) (k : Nat) (a1487 : Int) : spec_l4Fault.l0 x0 (k + 1) a1487 = (bif (decide (a1487 < (x0.length : Int))) then (chk (idxOk a1487 x0.length) ((spec_l3Ref.f k ((gt x0 a1487).fRef)).bind fun t1560 => (chk (!(!(!t1560)) || (idxOk a1487 x0.length)) ((bif (!(!t1560)) then spec_l2Height.f k ((gt x0 a1487).fHeight) else some default).bind fun t1566 => (bif ((!t1560) || (!t1566)) then some (.inl 3) else (chk (idxOk a1487 x0.length) ((spec_l4Out.f k ((gt x0 a1487).fOut)).bind fun t1585 => (bif (t1585 != 0) then some (.inl t1585) else (chk (!(decide (0 < a1487)) || (idxOk (wrap64 (a1487 - 1)) x0.length)) (chk (!(decide (0 < a1487)) || (idxOk a1487 x0.length)) ((bif (decide (0 < a1487)) then spec_l4Ahead.f k ((gt x0 (wrap64 (a1487 - 1))).fRef) ((gt x0 a1487).fRef) else some default).bind fun t1597 => (bif ((decide (0 < a1487)) && (!t1597)) then some (.inl 1) else spec_l4Fault.l0 x0 k (wrap64 (a1487 + 1)))))))))))))) else some (.inr ())) := rfl
def spec_l4Fault.f (k : Nat) (x0 : List Coin) : Option Int := (bif (decide (40 < (x0.length : Int))) then some 2 else ((spec_l4Fault.l0 x0 k 0).bind fun o1433 => thn o1433 (fun r => some r) (fun _ => some 0)))
theorem spec_l4Fault.calls {k : Nat} {x0 : List Coin} {p0 : Value} {w : World} (hp0 : RdS kCoin w p0 x0) {r : Int} (H : spec_l4Fault.f k x0 = some r) :
    Calls Tryz.prog 32 ([p0] : List Value).toArray w (fun e w_ => ∃ v, e = .returned v ∧ v = (.int .i64 r) ∧ Mem w [] w_ []) := by
  have HM := Mem.start w
  refine calls_run (N := 55) Tryz.func32 rfl rfl rfl rfl ?_
  unfold spec_l4Fault.f at H
  refine run_seq ?_
  refine run_region rfl ?_
  refine ops_ex rfl (guard_none rfl) rfl rfl (ex_assign rfl rfl) ?_
  refine ops_nil ?_
  refine at_then ?_
  refine run_seq ?_
  refine run_seq ?_
  refine run_region rfl ?_
  refine ops_ex rfl (guard_none rfl) rfl rfl (ex_move rfl rfl) ?_
  refine ops_ex rfl (guard_none rfl) rfl rfl (ex_len (d := kCoin) (xs := x0) rfl rfl Tryz.underlying29 hp0) ?_
  refine ops_ex rfl (guard_none rfl) rfl rfl (ex_gtr rfl rfl rfl) ?_
  refine ops_nil ?_
  refine at_then ?_
  refine run_cond (b := (decide (40 < (x0.length : Int)))) rfl (fun hb1275 => ?_) (fun hb1275 => ?_)
  · replace H := cond_t hb1275 H
    refine run_seq ?_
    refine run_region rfl ?_
    refine ops_ex rfl (guard_none rfl) rfl rfl (ex_assign rfl rfl) ?_
    refine ops_nil ?_
    refine at_then ?_
    refine run_ret ?_
    refine at_then_ret ?_
    have hR := Option.some.inj H
    subst hR
    exact at_ret1 rfl rfl ⟨_, rfl, rfl, HM⟩
  · replace H := cond_f hb1275 H
    refine run_skip ?_
    refine at_then ?_
    obtain ⟨o1433, ho1434, H⟩ := bind_some H
    refine run_mid (fun ρ_ w_ => Sum.inr () = o1433 ∧ ρ_ = [] ∧ Mem w [] w_ []) ?_ ?_
    · skip
      refine run_seq ?_
      refine run_region rfl ?_
      refine ops_ex rfl (guard_none rfl) rfl rfl (ex_assign rfl rfl) ?_
      refine ops_nil ?_
      refine at_then ?_
      refine run_block ?_
      refine run_loop (fun k_ ρ_ w_ => ∃ a1487 : Int, spec_l4Fault.l0 x0 k_ a1487 = some o1433 ∧ ρ_ = [(0, p0), (3, .int .i64 a1487)] ∧ Mem w [] w_ []) k (ρ1 := [(0, p0), (3, .int .i64 0)]) ⟨_, ho1434, rfl, HM⟩ (Sub.cons rfl (Sub.cons rfl Sub.nil)) ?_
      clear HM ho1434
      rintro k1540 _ w1541 ⟨a1487, ho1434, rfl, HM⟩
      obtain _ | k1540 := k1540
      · exact nomatch ((spec_l4Fault.l0_z x0 a1487).symm.trans ho1434)
      replace ho1434 := (spec_l4Fault.l0_s x0 k1540 a1487).symm.trans ho1434
      refine run_seq ?_
      refine run_seq ?_
      refine run_region rfl ?_
      refine ops_ex rfl (guard_none rfl) rfl rfl (ex_move rfl rfl) ?_
      refine ops_ex rfl (guard_none rfl) rfl rfl (ex_move rfl rfl) ?_
      refine ops_ex rfl (guard_none rfl) rfl rfl (ex_len (d := kCoin) (xs := x0) rfl rfl Tryz.underlying29 hp0) ?_
      refine ops_ex rfl (guard_none rfl) rfl rfl (ex_lss rfl rfl rfl) ?_
      refine ops_nil ?_
      refine at_then ?_
      refine run_cond (b := (decide (a1487 < (x0.length : Int)))) rfl (fun hb1542 => ?_) (fun hb1542 => ?_)
      · replace ho1434 := cond_t hb1542 ho1434
        refine run_skip ?_
        refine at_then ?_
        refine run_seq ?_
        refine run_block ?_
        refine run_seq ?_
        refine run_seq ?_
        obtain ⟨e1556, ho1434⟩ := chk_some ho1434
        obtain ⟨t1560, h1561, ho1434⟩ := bind_some ho1434
        obtain ⟨e1562, ho1434⟩ := chk_some ho1434
        obtain ⟨t1566, h1567, ho1434⟩ := bind_some ho1434
        refine run_meet (fun ρ_ w_ => ρ_ = [(0, p0), (3, .int .i64 a1487), (29, .bool ((!t1560) || (!t1566)))] ∧ Mem w [] w_ []) ?_ ?_
        · skip
          refine run_region rfl ?_
          refine ops_ex rfl (guard_none rfl) rfl rfl (ex_move rfl rfl) ?_
          refine ops_ex rfl (guard_none rfl) rfl rfl (ex_move rfl rfl) ?_
          obtain ⟨kv1558, hc1557, hk1559⟩ : ∃ u, CellsAt _ (sb p0) (so p0 + (a1487).toNat * 8) [(.int .i64 ((gt x0 a1487).fRef.fTx)), (.int .i64 ((gt x0 a1487).fRef.fAt)), (.int .i64 ((gt x0 a1487).fOut.fValue)), u, (.int .i64 ((gt x0 a1487).fOut.fRule.fNeed)), (.int .i64 ((gt x0 a1487).fOut.fRule.fAfter)), (.int .i64 ((gt x0 a1487).fHeight)), (.bool ((gt x0 a1487).fMined))] ∧ RdS kInt _ u ((gt x0 a1487).fOut.fRule.fKeys) := rd_with1 hp0 e1556
          refine ops_ex rfl (guard_none rfl) rfl rfl (ex_indexAddr (d := kCoin) rfl rfl rfl Tryz.underlying29 tsz77 hp0 (idx_lo e1556) (idx_hi e1556)) ?_
          refine ops_ex rfl (guard_none rfl) rfl rfl (ex_fieldAddr (off' := so p0 + (a1487).toNat * 8) rfl rfl Tryz.underlying77 rfl tsz56 rfl) ?_
          refine ops_ex rfl (guard_none rfl) rfl rfl (ex_loadN (cs := [(.int .i64 ((gt x0 a1487).fRef.fTx)), (.int .i64 ((gt x0 a1487).fRef.fAt))]) rfl rfl Tryz.underlying56 rfl tsz56 rfl ((HM.at_ hc1557).sub 0 2 rfl)) ?_
          refine ops_does rfl (guard_none rfl) rfl rfl (does_callk rfl callok70 rfl (spec_l3Ref.calls (x0 := (gt x0 a1487).fRef) h1561)) ?_
          rintro _ w1568 ⟨rfl, hn⟩
          replace HM : Mem w [] w1568 [] := HM.call hn
          refine ops_ex rfl (guard_none rfl) rfl rfl (ex_not rfl rfl) ?_
          refine ops_ex rfl (guard_none rfl) rfl rfl (ex_move rfl rfl) ?_
          refine bool_cases (!t1560) (fun hg1569 => ?_) (fun hg1569 => ?_)
          · skip
            refine ops_off rfl (guard_off rfl rfl rfl hg1569) rfl rfl ?_
            refine ops_off rfl (guard_off rfl rfl rfl hg1569) rfl rfl ?_
            refine ops_off rfl (guard_off rfl rfl rfl hg1569) rfl rfl ?_
            refine ops_off rfl (guard_off rfl rfl rfl hg1569) rfl rfl ?_
            refine ops_off rfl (guard_off rfl rfl rfl hg1569) rfl rfl ?_
            refine ops_off rfl (guard_off rfl rfl rfl hg1569) rfl rfl ?_
            refine ops_off rfl (guard_off rfl rfl rfl hg1569) rfl rfl ?_
            have hg1570 : ((!t1560) || (!t1566)) = true := by simp only [hg1569, Bool.and_true, Bool.true_and, Bool.and_false, Bool.false_and, Bool.or_true, Bool.true_or, Bool.or_false, Bool.false_or, Bool.not_true, Bool.not_false, Bool.not_not]
            refine ops_ex (v := .bool ((!t1560) || (!t1566))) rfl (guard_none rfl) rfl rfl (ex_por_t rfl rfl hg1569) ?_
            refine ops_nil ?_
            exact at_meet [(0, p0), (3, .int .i64 a1487), (29, .bool ((!t1560) || (!t1566)))] ⟨rfl, HM⟩ (Sub.cons rfl (Sub.cons rfl (Sub.cons rfl Sub.nil)))
          · skip
            refine ops_ex rfl (guard_on rfl rfl rfl hg1569) rfl rfl (ex_move rfl rfl) ?_
            refine ops_ex rfl (guard_on rfl rfl rfl hg1569) rfl rfl (ex_move rfl rfl) ?_
            obtain ⟨kv1564, hc1563, hk1565⟩ : ∃ u, CellsAt _ (sb p0) (so p0 + (a1487).toNat * 8) [(.int .i64 ((gt x0 a1487).fRef.fTx)), (.int .i64 ((gt x0 a1487).fRef.fAt)), (.int .i64 ((gt x0 a1487).fOut.fValue)), u, (.int .i64 ((gt x0 a1487).fOut.fRule.fNeed)), (.int .i64 ((gt x0 a1487).fOut.fRule.fAfter)), (.int .i64 ((gt x0 a1487).fHeight)), (.bool ((gt x0 a1487).fMined))] ∧ RdS kInt _ u ((gt x0 a1487).fOut.fRule.fKeys) := rd_with1 hp0 (or_t e1562 (not_mk hg1569))
            refine ops_ex rfl (guard_on rfl rfl rfl hg1569) rfl rfl (ex_indexAddr (d := kCoin) rfl rfl rfl Tryz.underlying29 tsz77 hp0 (idx_lo (or_t e1562 (not_mk hg1569))) (idx_hi (or_t e1562 (not_mk hg1569)))) ?_
            refine ops_ex rfl (guard_on rfl rfl rfl hg1569) rfl rfl (ex_fieldAddr (off' := so p0 + (a1487).toNat * 8 + 6) rfl rfl Tryz.underlying77 rfl tsz2 rfl) ?_
            refine ops_ex rfl (guard_on rfl rfl rfl hg1569) rfl rfl (ex_load1 rfl rfl Tryz.underlying2 rfl ((HM.at_ hc1563) 6 _ rfl)) ?_
            refine ops_does rfl (guard_on rfl rfl rfl hg1569) rfl rfl (does_callk rfl callok71 rfl (spec_l2Height.calls (x0 := (gt x0 a1487).fHeight) (cond_t (not_mk hg1569) h1567))) ?_
            rintro _ w1571 ⟨rfl, hn⟩
            replace HM : Mem w [] w1571 [] := HM.call hn
            refine ops_ex rfl (guard_on rfl rfl rfl hg1569) rfl rfl (ex_not rfl rfl) ?_
            refine ops_ex (v := .bool ((!t1560) || (!t1566))) rfl (guard_none rfl) rfl rfl (ex_por_f rfl rfl hg1569 rfl) ?_
            refine ops_nil ?_
            exact at_meet [(0, p0), (3, .int .i64 a1487), (29, .bool ((!t1560) || (!t1566)))] ⟨rfl, HM⟩ (Sub.cons rfl (Sub.cons rfl (Sub.cons rfl Sub.nil)))
        · rintro _ w1572 ⟨rfl, HM⟩
          refine at_then ?_
          refine run_cond (b := ((!t1560) || (!t1566))) rfl (fun hb1573 => ?_) (fun hb1573 => ?_)
          · replace ho1434 := cond_t hb1573 ho1434
            refine run_seq ?_
            refine run_region rfl ?_
            refine ops_ex rfl (guard_none rfl) rfl rfl (ex_assign rfl rfl) ?_
            refine ops_nil ?_
            refine at_then ?_
            refine run_ret ?_
            refine at_then_ret ?_
            refine at_block_ret ?_
            refine at_then_ret ?_
            refine at_then_ret ?_
            refine at_block_ret ?_
            refine at_then_ret ?_
            have hR := Option.some.inj ho1434
            subst hR
            have hT := thn_inl H
            have hR := Option.some.inj hT
            subst hR
            exact at_ret1 rfl rfl ⟨_, rfl, rfl, HM⟩
          · replace ho1434 := cond_f hb1573 ho1434
            refine run_skip ?_
            refine at_then ?_
            refine run_seq ?_
            refine run_seq ?_
            obtain ⟨e1581, ho1434⟩ := chk_some ho1434
            obtain ⟨t1585, h1586, ho1434⟩ := bind_some ho1434
            refine run_region rfl ?_
            refine ops_ex rfl (guard_none rfl) rfl rfl (ex_move rfl rfl) ?_
            refine ops_ex rfl (guard_none rfl) rfl rfl (ex_move rfl rfl) ?_
            obtain ⟨kv1583, hc1582, hk1584⟩ : ∃ u, CellsAt _ (sb p0) (so p0 + (a1487).toNat * 8) [(.int .i64 ((gt x0 a1487).fRef.fTx)), (.int .i64 ((gt x0 a1487).fRef.fAt)), (.int .i64 ((gt x0 a1487).fOut.fValue)), u, (.int .i64 ((gt x0 a1487).fOut.fRule.fNeed)), (.int .i64 ((gt x0 a1487).fOut.fRule.fAfter)), (.int .i64 ((gt x0 a1487).fHeight)), (.bool ((gt x0 a1487).fMined))] ∧ RdS kInt _ u ((gt x0 a1487).fOut.fRule.fKeys) := rd_with1 hp0 e1581
            refine ops_ex rfl (guard_none rfl) rfl rfl (ex_indexAddr (d := kCoin) rfl rfl rfl Tryz.underlying29 tsz77 hp0 (idx_lo e1581) (idx_hi e1581)) ?_
            refine ops_ex rfl (guard_none rfl) rfl rfl (ex_fieldAddr (off' := so p0 + (a1487).toNat * 8 + 2) rfl rfl Tryz.underlying77 rfl tsz75 rfl) ?_
            refine ops_does rfl (guard_none rfl) rfl rfl (does_callk rfl callok72 rfl (spec_l4Out.calls (x0 := (gt x0 a1487).fOut) (CellsAt.sub (HM.at_ hc1582) 2 4 rfl) (HM.rd hk1584) h1586)) ?_
            rintro _ w1587 ⟨rfl, hn⟩
            replace HM : Mem w [] w1587 [] := HM.call hn
            refine ops_ex rfl (guard_none rfl) rfl rfl (ex_assign rfl rfl) ?_
            refine ops_nil ?_
            refine at_then ?_
            refine run_seq ?_
            refine run_region rfl ?_
            refine ops_ex rfl (guard_none rfl) rfl rfl (ex_move rfl rfl) ?_
            refine ops_ex rfl (guard_none rfl) rfl rfl (ex_neq rfl rfl rfl) ?_
            refine ops_nil ?_
            refine at_then ?_
            refine run_cond (b := (t1585 != 0)) rfl (fun hb1588 => ?_) (fun hb1588 => ?_)
            · replace ho1434 := cond_t hb1588 ho1434
              refine run_seq ?_
              refine run_region rfl ?_
              refine ops_ex rfl (guard_none rfl) rfl rfl (ex_move rfl rfl) ?_
              refine ops_ex rfl (guard_none rfl) rfl rfl (ex_assign rfl rfl) ?_
              refine ops_nil ?_
              refine at_then ?_
              refine run_ret ?_
              refine at_then_ret ?_
              refine at_block_ret ?_
              refine at_then_ret ?_
              refine at_then_ret ?_
              refine at_block_ret ?_
              refine at_then_ret ?_
              have hR := Option.some.inj ho1434
              subst hR
              have hT := thn_inl H
              have hR := Option.some.inj hT
              subst hR
              exact at_ret1 rfl rfl ⟨_, rfl, rfl, HM⟩
            · replace ho1434 := cond_f hb1588 ho1434
              refine run_skip ?_
              refine at_then ?_
              refine run_seq ?_
              obtain ⟨e1589, ho1434⟩ := chk_some ho1434
              obtain ⟨e1593, ho1434⟩ := chk_some ho1434
              obtain ⟨t1597, h1598, ho1434⟩ := bind_some ho1434
              refine run_meet (fun ρ_ w_ => ρ_ = [(0, p0), (3, .int .i64 a1487), (54, .bool ((decide (0 < a1487)) && (!t1597)))] ∧ Mem w [] w_ []) ?_ ?_
              · skip
                refine run_drawf (fun w_ => Mem w [] w_ []) [(0, true), (1, true), (2, true), (3, true), (4, true), (5, true), (6, true), (7, true), (8, true), (9, true), (10, true), (11, true), (12, true), (13, true), (14, false), (15, true), (16, true)] mixed rfl rfl (by kernel_rfl) ?_
                replace HM := HM.grow (fr_drew _)
                have hS := Mem.suf (M := []) HM
                refine drwp_take rfl (guard_none rfl) rfl rfl (fun w_ hS_ => (ex_move rfl rfl)) hS ?_
                refine drwp_take rfl (guard_none rfl) rfl rfl (fun w_ hS_ => (ex_gtr rfl rfl rfl)) hS ?_
                refine drwp_take rfl (guard_none rfl) rfl rfl (fun w_ hS_ => (ex_move rfl rfl)) hS ?_
                refine bool_cases (decide (0 < a1487)) (fun hg1599 => ?_) (fun hg1599 => ?_)
                · skip
                  refine drwp_take rfl (guard_on rfl rfl rfl hg1599) rfl rfl (fun w_ hS_ => (ex_move rfl rfl)) hS ?_
                  refine drwp_take rfl (guard_on rfl rfl rfl hg1599) rfl rfl (fun w_ hS_ => (ex_move rfl rfl)) hS ?_
                  refine drwp_take rfl (guard_on rfl rfl rfl hg1599) rfl rfl (fun w_ hS_ => (ex_sub rfl rfl rfl)) hS ?_
                  obtain ⟨kv1591, hc1590, hk1592⟩ : ∃ u, CellsAt _ (sb p0) (so p0 + (wrap64 (a1487 - 1)).toNat * 8) [(.int .i64 ((gt x0 (wrap64 (a1487 - 1))).fRef.fTx)), (.int .i64 ((gt x0 (wrap64 (a1487 - 1))).fRef.fAt)), (.int .i64 ((gt x0 (wrap64 (a1487 - 1))).fOut.fValue)), u, (.int .i64 ((gt x0 (wrap64 (a1487 - 1))).fOut.fRule.fNeed)), (.int .i64 ((gt x0 (wrap64 (a1487 - 1))).fOut.fRule.fAfter)), (.int .i64 ((gt x0 (wrap64 (a1487 - 1))).fHeight)), (.bool ((gt x0 (wrap64 (a1487 - 1))).fMined))] ∧ RdS kInt _ u ((gt x0 (wrap64 (a1487 - 1))).fOut.fRule.fKeys) := rd_with1 hp0 (or_t e1589 hg1599)
                  refine drwp_take rfl (guard_on rfl rfl rfl hg1599) rfl rfl (fun w_ hS_ => (ex_indexAddr (d := kCoin) rfl rfl rfl Tryz.underlying29 tsz77 hp0 (idx_lo (or_t e1589 hg1599)) (idx_hi (or_t e1589 hg1599)))) hS ?_
                  refine drwp_take rfl (guard_on rfl rfl rfl hg1599) rfl rfl (fun w_ hS_ => (ex_fieldAddr (off' := so p0 + (wrap64 (a1487 - 1)).toNat * 8) rfl rfl Tryz.underlying77 rfl tsz56 rfl)) hS ?_
                  refine drwp_take rfl (guard_on rfl rfl rfl hg1599) rfl rfl (fun w_ hS_ => (ex_loadN (cs := [(.int .i64 ((gt x0 (wrap64 (a1487 - 1))).fRef.fTx)), (.int .i64 ((gt x0 (wrap64 (a1487 - 1))).fRef.fAt))]) rfl rfl Tryz.underlying56 rfl tsz56 rfl ((hS_.at_ hc1590).sub 0 2 rfl))) hS ?_
                  refine drwp_take rfl (guard_on rfl rfl rfl hg1599) rfl rfl (fun w_ hS_ => (ex_move rfl rfl)) hS ?_
                  refine drwp_take rfl (guard_on rfl rfl rfl hg1599) rfl rfl (fun w_ hS_ => (ex_move rfl rfl)) hS ?_
                  obtain ⟨kv1595, hc1594, hk1596⟩ : ∃ u, CellsAt _ (sb p0) (so p0 + (a1487).toNat * 8) [(.int .i64 ((gt x0 a1487).fRef.fTx)), (.int .i64 ((gt x0 a1487).fRef.fAt)), (.int .i64 ((gt x0 a1487).fOut.fValue)), u, (.int .i64 ((gt x0 a1487).fOut.fRule.fNeed)), (.int .i64 ((gt x0 a1487).fOut.fRule.fAfter)), (.int .i64 ((gt x0 a1487).fHeight)), (.bool ((gt x0 a1487).fMined))] ∧ RdS kInt _ u ((gt x0 a1487).fOut.fRule.fKeys) := rd_with1 hp0 (or_t e1593 hg1599)
                  refine drwp_take rfl (guard_on rfl rfl rfl hg1599) rfl rfl (fun w_ hS_ => (ex_indexAddr (d := kCoin) rfl rfl rfl Tryz.underlying29 tsz77 hp0 (idx_lo (or_t e1593 hg1599)) (idx_hi (or_t e1593 hg1599)))) hS ?_
                  refine drwp_take rfl (guard_on rfl rfl rfl hg1599) rfl rfl (fun w_ hS_ => (ex_fieldAddr (off' := so p0 + (a1487).toNat * 8) rfl rfl Tryz.underlying77 rfl tsz56 rfl)) hS ?_
                  refine drwp_take rfl (guard_on rfl rfl rfl hg1599) rfl rfl (fun w_ hS_ => (ex_loadN (cs := [(.int .i64 ((gt x0 a1487).fRef.fTx)), (.int .i64 ((gt x0 a1487).fRef.fAt))]) rfl rfl Tryz.underlying56 rfl tsz56 rfl ((hS_.at_ hc1594).sub 0 2 rfl))) hS ?_
                  refine drwp_one rfl (guard_on rfl rfl rfl hg1599) rfl rfl (does_callk rfl callok73 rfl (spec_l4Ahead.calls (x0 := (gt x0 (wrap64 (a1487 - 1))).fRef) (x1 := (gt x0 a1487).fRef) (cond_t hg1599 h1598))) ?_
                  rintro _ w1600 ⟨rfl, hn⟩
                  replace HM : Mem w [] w1600 [] := HM.call hn
                  refine ⟨Mem.suf (M := []) HM, ?_⟩
                  have hS := Mem.suf (M := []) HM
                  refine drwp_take rfl (guard_on rfl rfl rfl hg1599) rfl rfl (fun w_ hS_ => (ex_not rfl rfl)) hS ?_
                  refine drwp_take (v := .bool ((decide (0 < a1487)) && (!t1597))) rfl (guard_none rfl) rfl rfl (fun w_ hS_ => (ex_pand_t rfl rfl hg1599 rfl)) hS ?_
                  refine drwp_done ?_
                  exact at_meet [(0, p0), (3, .int .i64 a1487), (54, .bool ((decide (0 < a1487)) && (!t1597)))] ⟨rfl, HM⟩ (Sub.cons rfl (Sub.cons rfl (Sub.cons rfl Sub.nil)))
                · skip
                  refine drwp_off rfl (guard_off rfl rfl rfl hg1599) rfl rfl hS ?_
                  refine drwp_off rfl (guard_off rfl rfl rfl hg1599) rfl rfl hS ?_
                  refine drwp_off rfl (guard_off rfl rfl rfl hg1599) rfl rfl hS ?_
                  refine drwp_off rfl (guard_off rfl rfl rfl hg1599) rfl rfl hS ?_
                  refine drwp_off rfl (guard_off rfl rfl rfl hg1599) rfl rfl hS ?_
                  refine drwp_off rfl (guard_off rfl rfl rfl hg1599) rfl rfl hS ?_
                  refine drwp_off rfl (guard_off rfl rfl rfl hg1599) rfl rfl hS ?_
                  refine drwp_off rfl (guard_off rfl rfl rfl hg1599) rfl rfl hS ?_
                  refine drwp_off rfl (guard_off rfl rfl rfl hg1599) rfl rfl hS ?_
                  refine drwp_off rfl (guard_off rfl rfl rfl hg1599) rfl rfl hS ?_
                  refine drwp_off rfl (guard_off rfl rfl rfl hg1599) rfl rfl hS ?_
                  refine drwp_off1 rfl (guard_off rfl rfl rfl hg1599) rfl rfl ⟨hS, ?_⟩
                  refine drwp_off rfl (guard_off rfl rfl rfl hg1599) rfl rfl hS ?_
                  have hg1601 : ((decide (0 < a1487)) && (!t1597)) = false := by simp only [hg1599, Bool.and_true, Bool.true_and, Bool.and_false, Bool.false_and, Bool.or_true, Bool.true_or, Bool.or_false, Bool.false_or, Bool.not_true, Bool.not_false, Bool.not_not]
                  refine drwp_take (v := .bool ((decide (0 < a1487)) && (!t1597))) rfl (guard_none rfl) rfl rfl (fun w_ hS_ => (ex_pand_f rfl rfl hg1599)) hS ?_
                  refine drwp_done ?_
                  exact at_meet [(0, p0), (3, .int .i64 a1487), (54, .bool ((decide (0 < a1487)) && (!t1597)))] ⟨rfl, HM⟩ (Sub.cons rfl (Sub.cons rfl (Sub.cons rfl Sub.nil)))
              · rintro _ w1602 ⟨rfl, HM⟩
                refine at_then ?_
                refine run_cond (b := ((decide (0 < a1487)) && (!t1597))) rfl (fun hb1603 => ?_) (fun hb1603 => ?_)
                · replace ho1434 := cond_t hb1603 ho1434
                  refine run_seq ?_
                  refine run_region rfl ?_
                  refine ops_ex rfl (guard_none rfl) rfl rfl (ex_assign rfl rfl) ?_
                  refine ops_nil ?_
                  refine at_then ?_
                  refine run_ret ?_
                  refine at_block_ret ?_
                  refine at_then_ret ?_
                  refine at_then_ret ?_
                  refine at_block_ret ?_
                  refine at_then_ret ?_
                  have hR := Option.some.inj ho1434
                  subst hR
                  have hT := thn_inl H
                  have hR := Option.some.inj hT
                  subst hR
                  exact at_ret1 rfl rfl ⟨_, rfl, rfl, HM⟩
                · replace ho1434 := cond_f hb1603 ho1434
                  refine run_skip ?_
                  refine at_block ?_
                  refine at_then ?_
                  refine run_region rfl ?_
                  refine ops_ex rfl (guard_none rfl) rfl rfl (ex_move rfl rfl) ?_
                  refine ops_ex rfl (guard_none rfl) rfl rfl (ex_add rfl rfl rfl) ?_
                  refine ops_ex rfl (guard_none rfl) rfl rfl (ex_assign rfl rfl) ?_
                  refine ops_nil ?_
                  exact at_again k1540 (ρ1 := [(0, p0), (3, .int .i64 (wrap64 (a1487 + 1)))]) (Nat.lt_succ_self _) ⟨_, ho1434, rfl, HM⟩ (Sub.cons rfl (Sub.cons rfl Sub.nil))
      · replace ho1434 := cond_f hb1542 ho1434
        refine run_exit ?_
        refine at_then_exit ?_
        refine at_then_exit ?_
        refine at_block_exit ?_
        exact at_mid (ρ' := []) ⟨(Option.some.inj ho1434), rfl, HM⟩ Sub.nil
    · rintro _ w1604 ⟨rfl, rfl, HM⟩
      replace H := (thn_inr H)
      refine run_seq ?_
      refine run_region rfl ?_
      refine ops_ex rfl (guard_none rfl) rfl rfl (ex_assign rfl rfl) ?_
      refine ops_nil ?_
      refine at_then ?_
      refine run_ret ?_
      have hR := Option.some.inj H
      subst hR
      exact at_ret1 rfl rfl ⟨_, rfl, rfl, HM⟩

def spec_l3Among.l0 (x0 : List Ref) (x1 : Ref) : Nat → Int → Option (Bool ⊕ Unit)
  | 0, _ => none
  | k + 1, a1691 => (bif (decide (a1691 < (x0.length : Int))) then (chk (idxOk a1691 x0.length) (bif ((((gt x0 a1691).fTx) == x1.fTx) && (((gt x0 a1691).fAt) == x1.fAt)) then some (.inl true) else spec_l3Among.l0 x0 x1 k (wrap64 (a1691 + 1)))) else some (.inr ()))
theorem spec_l3Among.l0_z (x0 : List Ref) (x1 : Ref) (a1691 : Int) : spec_l3Among.l0 x0 x1 0 a1691 = none := rfl
theorem spec_l3Among.l0_s (x0 : List Ref) (x1 : Ref) (k : Nat) (a1691 : Int) : spec_l3Among.l0 x0 x1 (k + 1) a1691 = (bif (decide (a1691 < (x0.length : Int))) then (chk (idxOk a1691 x0.length) (bif ((((gt x0 a1691).fTx) == x1.fTx) && (((gt x0 a1691).fAt) == x1.fAt)) then some (.inl true) else spec_l3Among.l0 x0 x1 k (wrap64 (a1691 + 1)))) else some (.inr ())) := rfl
def spec_l3Among.f (k : Nat) (x0 : List Ref) (x1 : Ref) : Option Bool := ((spec_l3Among.l0 x0 x1 k 0).bind fun o1685 => thn o1685 (fun r => some r) (fun _ => some false))
theorem spec_l3Among.calls {k : Nat} {x0 : List Ref} {x1 : Ref} {p0 : Value} {w : World} (hp0 : RdS kRef w p0 x0) {r : Bool} (H : spec_l3Among.f k x0 x1 = some r) :
    Calls Tryz.prog 75 ([p0, .agg #[(.int .i64 x1.fTx), (.int .i64 x1.fAt)]] : List Value).toArray w (fun e w_ => ∃ v, e = .returned v ∧ v = (.bool r) ∧ Mem w [] w_ []) := by
  have HM := Mem.start w
  refine calls_run (N := 18) Tryz.func75 rfl rfl rfl rfl ?_
  unfold spec_l3Among.f at H
  refine run_seq ?_
  refine run_region rfl ?_
  refine ops_does rfl (guard_none rfl) rfl rfl (does_box (cs := [.int .i64 x1.fTx, .int .i64 x1.fAt]) rfl rfl rfl HM) ?_
  rintro _ w1671 ⟨b1668, rfl, HM⟩
  refine ops_ex rfl (guard_none rfl) rfl rfl (ex_assign rfl rfl) ?_
  refine ops_nil ?_
  refine at_then ?_
  obtain ⟨o1685, ho1686, H⟩ := bind_some H
  refine run_mid (fun ρ_ w_ => Sum.inr () = o1685 ∧ ρ_ = [] ∧ Mem w [] w_ []) ?_ ?_
  · skip
    refine run_seq ?_
    refine run_region rfl ?_
    refine ops_ex rfl (guard_none rfl) rfl rfl (ex_assign rfl rfl) ?_
    refine ops_nil ?_
    refine at_then ?_
    refine run_block ?_
    refine run_loop (fun k_ ρ_ w_ => ∃ a1691 : Int, spec_l3Among.l0 x0 x1 k_ a1691 = some o1685 ∧ ρ_ = [(0, p0), (3, .pointer (some ⟨b1668, 0, none⟩)), (5, .int .i64 a1691)] ∧ Mem w [] w_ [box b1668 56 [.int .i64 x1.fTx, .int .i64 x1.fAt]]) k (ρ1 := [(0, p0), (3, .pointer (some ⟨b1668, 0, none⟩)), (5, .int .i64 0)]) ⟨_, ho1686, rfl, HM⟩ (Sub.cons rfl (Sub.cons rfl (Sub.cons rfl Sub.nil))) ?_
    clear HM ho1686
    rintro k1696 _ w1697 ⟨a1691, ho1686, rfl, HM⟩
    obtain _ | k1696 := k1696
    · exact nomatch ((spec_l3Among.l0_z x0 x1 a1691).symm.trans ho1686)
    replace ho1686 := (spec_l3Among.l0_s x0 x1 k1696 a1691).symm.trans ho1686
    refine run_seq ?_
    refine run_seq ?_
    refine run_region rfl ?_
    refine ops_ex rfl (guard_none rfl) rfl rfl (ex_move rfl rfl) ?_
    refine ops_ex rfl (guard_none rfl) rfl rfl (ex_move rfl rfl) ?_
    refine ops_ex rfl (guard_none rfl) rfl rfl (ex_len (d := kRef) (xs := x0) rfl rfl Tryz.underlying34 hp0) ?_
    refine ops_ex rfl (guard_none rfl) rfl rfl (ex_lss rfl rfl rfl) ?_
    refine ops_nil ?_
    refine at_then ?_
    refine run_cond (b := (decide (a1691 < (x0.length : Int)))) rfl (fun hb1698 => ?_) (fun hb1698 => ?_)
    · replace ho1686 := cond_t hb1698 ho1686
      refine run_skip ?_
      refine at_then ?_
      refine run_seq ?_
      refine run_block ?_
      refine run_seq ?_
      obtain ⟨e1699, ho1686⟩ := chk_some ho1686
      refine run_drawf (fun w_ => Mem w [] w_ [box b1668 56 [.int .i64 x1.fTx, .int .i64 x1.fAt]]) [(0, true), (1, true), (2, true), (3, true), (4, true), (5, true)] mixed rfl rfl (by kernel_rfl) ?_
      replace HM := HM.grow (fr_drew _)
      have hS := Mem.suf (M := []) HM
      refine drwp_take rfl (guard_none rfl) rfl rfl (fun w_ hS_ => (ex_move rfl rfl)) hS ?_
      refine drwp_take rfl (guard_none rfl) rfl rfl (fun w_ hS_ => (ex_move rfl rfl)) hS ?_
      have hc1700 : CellsAt _ (sb p0) (so p0 + (a1691).toNat * 2) [(.int .i64 ((gt x0 a1691).fTx)), (.int .i64 ((gt x0 a1691).fAt))] := rd_plain hp0 e1699
      refine drwp_take rfl (guard_none rfl) rfl rfl (fun w_ hS_ => (ex_indexAddr (d := kRef) rfl rfl rfl Tryz.underlying34 tsz56 hp0 (idx_lo e1699) (idx_hi e1699))) hS ?_
      refine drwp_take rfl (guard_none rfl) rfl rfl (fun w_ hS_ => (ex_loadN (cs := [(.int .i64 ((gt x0 a1691).fTx)), (.int .i64 ((gt x0 a1691).fAt))]) rfl rfl Tryz.underlying56 rfl tsz56 rfl ((hS_.at_ hc1700).sub 0 2 rfl))) hS ?_
      refine drwp_take rfl (guard_none rfl) rfl rfl (fun w_ hS_ => (ex_loadN (cs := [(.int .i64 x1.fTx), (.int .i64 x1.fAt)]) rfl rfl Tryz.underlying56 rfl tsz56 rfl ((hS_.box_at 0 rfl).sub 0 2 rfl))) hS ?_
      refine drwp_take rfl (guard_none rfl) rfl rfl (fun w_ hS_ => (ex_aeql rfl rfl rfl (by kernel_rfl) (eqs56 _ _ _ _ _))) hS ?_
      refine drwp_done ?_
      refine at_then ?_
      refine run_cond (b := ((((gt x0 a1691).fTx) == x1.fTx) && (((gt x0 a1691).fAt) == x1.fAt))) rfl (fun hb1701 => ?_) (fun hb1701 => ?_)
      · replace ho1686 := cond_t hb1701 ho1686
        refine run_seq ?_
        refine run_region rfl ?_
        refine ops_ex rfl (guard_none rfl) rfl rfl (ex_assign rfl rfl) ?_
        refine ops_nil ?_
        refine at_then ?_
        refine run_ret ?_
        refine at_block_ret ?_
        refine at_then_ret ?_
        refine at_then_ret ?_
        refine at_block_ret ?_
        refine at_then_ret ?_
        replace HM := (HM.front 0 rfl rfl).drop
        have hR := Option.some.inj ho1686
        subst hR
        have hT := thn_inl H
        have hR := Option.some.inj hT
        subst hR
        exact at_ret1 rfl rfl ⟨_, rfl, rfl, HM⟩
      · replace ho1686 := cond_f hb1701 ho1686
        refine run_skip ?_
        refine at_block ?_
        refine at_then ?_
        refine run_region rfl ?_
        refine ops_ex rfl (guard_none rfl) rfl rfl (ex_move rfl rfl) ?_
        refine ops_ex rfl (guard_none rfl) rfl rfl (ex_add rfl rfl rfl) ?_
        refine ops_ex rfl (guard_none rfl) rfl rfl (ex_assign rfl rfl) ?_
        refine ops_nil ?_
        exact at_again k1696 (ρ1 := [(0, p0), (3, .pointer (some ⟨b1668, 0, none⟩)), (5, .int .i64 (wrap64 (a1691 + 1)))]) (Nat.lt_succ_self _) ⟨_, ho1686, rfl, HM⟩ (Sub.cons rfl (Sub.cons rfl (Sub.cons rfl Sub.nil)))
    · replace ho1686 := cond_f hb1698 ho1686
      refine run_exit ?_
      refine at_then_exit ?_
      refine at_then_exit ?_
      refine at_block_exit ?_
      replace HM := (HM.front 0 rfl rfl).drop
      exact at_mid (ρ' := []) ⟨(Option.some.inj ho1686), rfl, HM⟩ Sub.nil
  · rintro _ w1702 ⟨rfl, rfl, HM⟩
    replace H := (thn_inr H)
    refine run_seq ?_
    refine run_region rfl ?_
    refine ops_ex rfl (guard_none rfl) rfl rfl (ex_assign rfl rfl) ?_
    refine ops_nil ?_
    refine at_then ?_
    refine run_ret ?_
    have hR := Option.some.inj H
    subst hR
    exact at_ret1 rfl rfl ⟨_, rfl, rfl, HM⟩

def spec_l3Outs.l0 (x0 : Tx) : Nat → Int → Option (Int ⊕ Unit)
  | 0, _ => none
  | k + 1, a1914 => (bif (decide (a1914 < (x0.fOuts.length : Int))) then (chk (idxOk a1914 x0.fOuts.length) ((spec_l1In.f k ((gt x0.fOuts a1914).fValue) 1 1000000).bind fun t1951 => (bif !t1951 then some (.inl 3) else (chk (idxOk a1914 x0.fOuts.length) ((spec_l2Fault.f k ((gt x0.fOuts a1914).fRule)).bind fun t1959 => (bif (t1959 != 0) then some (.inl t1959) else spec_l3Outs.l0 x0 k (wrap64 (a1914 + 1)))))))) else some (.inr ()))
theorem spec_l3Outs.l0_z (x0 : Tx) (a1914 : Int) : spec_l3Outs.l0 x0 0 a1914 = none := rfl
theorem spec_l3Outs.l0_s (x0 : Tx) (k : Nat) (a1914 : Int) : spec_l3Outs.l0 x0 (k + 1) a1914 = (bif (decide (a1914 < (x0.fOuts.length : Int))) then (chk (idxOk a1914 x0.fOuts.length) ((spec_l1In.f k ((gt x0.fOuts a1914).fValue) 1 1000000).bind fun t1951 => (bif !t1951 then some (.inl 3) else (chk (idxOk a1914 x0.fOuts.length) ((spec_l2Fault.f k ((gt x0.fOuts a1914).fRule)).bind fun t1959 => (bif (t1959 != 0) then some (.inl t1959) else spec_l3Outs.l0 x0 k (wrap64 (a1914 + 1)))))))) else some (.inr ())) := rfl
def spec_l3Outs.f (k : Nat) (x0 : Tx) : Option Int := ((spec_l3Outs.l0 x0 k 0).bind fun o1890 => thn o1890 (fun r => some r) (fun _ => (chk (!(x0.fKind == 1) || (idxOk (0 : Int) x0.fOuts.length)) (bif ((x0.fKind == 1) && (decide (((gt x0.fOuts (0 : Int)).fValue) < 100))) then some 8 else some 0))))
theorem spec_l3Outs.calls {k : Nat} {x0 : Tx} {b0 f0 : Nat} {p0_0 : Value} {p0_1 : Value} {w : World} (hc0 : CellsAt w b0 f0 [.int .i64 x0.fKind, .int .i64 x0.fMember, p0_0, p0_1]) (hp0_0 : RdS kRef w p0_0 x0.fIns) (hp0_1 : RdS kOut w p0_1 x0.fOuts) {r : Int} (H : spec_l3Outs.f k x0 = some r) :
    Calls Tryz.prog 76 ([.pointer (some ⟨b0, f0, none⟩)] : List Value).toArray w (fun e w_ => ∃ v, e = .returned v ∧ v = (.int .i64 r) ∧ Mem w [] w_ []) := by
  have HM := Mem.start w
  refine calls_run (N := 50) Tryz.func76 rfl rfl rfl rfl ?_
  unfold spec_l3Outs.f at H
  refine run_seq ?_
  refine run_region rfl ?_
  refine ops_ex rfl (guard_none rfl) rfl rfl (ex_assign rfl rfl) ?_
  refine ops_nil ?_
  refine at_then ?_
  obtain ⟨o1890, ho1891, H⟩ := bind_some H
  refine run_mid (fun ρ_ w_ => Sum.inr () = o1890 ∧ ρ_ = [(0, .pointer (some ⟨b0, f0, none⟩))] ∧ Mem w [] w_ []) ?_ ?_
  · skip
    refine run_seq ?_
    refine run_region rfl ?_
    refine ops_ex rfl (guard_none rfl) rfl rfl (ex_assign rfl rfl) ?_
    refine ops_nil ?_
    refine at_then ?_
    refine run_block ?_
    refine run_loop (fun k_ ρ_ w_ => ∃ a1914 : Int, spec_l3Outs.l0 x0 k_ a1914 = some o1890 ∧ ρ_ = [(0, .pointer (some ⟨b0, f0, none⟩)), (3, .int .i64 a1914)] ∧ Mem w [] w_ []) k (ρ1 := [(0, .pointer (some ⟨b0, f0, none⟩)), (3, .int .i64 0)]) ⟨_, ho1891, rfl, HM⟩ (Sub.cons rfl (Sub.cons rfl Sub.nil)) ?_
    clear HM ho1891
    rintro k1937 _ w1938 ⟨a1914, ho1891, rfl, HM⟩
    obtain _ | k1937 := k1937
    · exact nomatch ((spec_l3Outs.l0_z x0 a1914).symm.trans ho1891)
    replace ho1891 := (spec_l3Outs.l0_s x0 k1937 a1914).symm.trans ho1891
    refine run_seq ?_
    refine run_seq ?_
    refine run_region rfl ?_
    refine ops_ex rfl (guard_none rfl) rfl rfl (ex_move rfl rfl) ?_
    refine ops_ex rfl (guard_none rfl) rfl rfl (ex_move rfl rfl) ?_
    refine ops_ex rfl (guard_none rfl) rfl rfl (ex_nilCheck rfl rfl) ?_
    refine ops_ex rfl (guard_none rfl) rfl rfl (ex_fieldAddr (off' := f0 + 3) rfl rfl Tryz.underlying37 rfl tsz35 rfl) ?_
    refine ops_ex rfl (guard_none rfl) rfl rfl (ex_load1 rfl rfl Tryz.underlying35 rfl ((HM.at_ hc0) 3 _ rfl)) ?_
    refine ops_ex rfl (guard_none rfl) rfl rfl (ex_len (d := kOut) (xs := x0.fOuts) rfl rfl Tryz.underlying35 hp0_1) ?_
    refine ops_ex rfl (guard_none rfl) rfl rfl (ex_lss rfl rfl rfl) ?_
    refine ops_nil ?_
    refine at_then ?_
    refine run_cond (b := (decide (a1914 < (x0.fOuts.length : Int)))) rfl (fun hb1939 => ?_) (fun hb1939 => ?_)
    · replace ho1891 := cond_t hb1939 ho1891
      refine run_skip ?_
      refine at_then ?_
      refine run_seq ?_
      refine run_block ?_
      refine run_seq ?_
      refine run_seq ?_
      obtain ⟨e1947, ho1891⟩ := chk_some ho1891
      obtain ⟨t1951, h1952, ho1891⟩ := bind_some ho1891
      refine run_region rfl ?_
      refine ops_ex rfl (guard_none rfl) rfl rfl (ex_move rfl rfl) ?_
      refine ops_ex rfl (guard_none rfl) rfl rfl (ex_nilCheck rfl rfl) ?_
      refine ops_ex rfl (guard_none rfl) rfl rfl (ex_fieldAddr (off' := f0 + 3) rfl rfl Tryz.underlying37 rfl tsz35 rfl) ?_
      refine ops_ex rfl (guard_none rfl) rfl rfl (ex_load1 rfl rfl Tryz.underlying35 rfl ((HM.at_ hc0) 3 _ rfl)) ?_
      refine ops_ex rfl (guard_none rfl) rfl rfl (ex_move rfl rfl) ?_
      obtain ⟨kv1949, hc1948, hk1950⟩ : ∃ u, CellsAt _ (sb p0_1) (so p0_1 + (a1914).toNat * 4) [(.int .i64 ((gt x0.fOuts a1914).fValue)), u, (.int .i64 ((gt x0.fOuts a1914).fRule.fNeed)), (.int .i64 ((gt x0.fOuts a1914).fRule.fAfter))] ∧ RdS kInt _ u ((gt x0.fOuts a1914).fRule.fKeys) := rd_with1 hp0_1 e1947
      refine ops_ex rfl (guard_none rfl) rfl rfl (ex_indexAddr (d := kOut) rfl rfl rfl Tryz.underlying35 tsz75 hp0_1 (idx_lo e1947) (idx_hi e1947)) ?_
      refine ops_ex rfl (guard_none rfl) rfl rfl (ex_fieldAddr (off' := so p0_1 + (a1914).toNat * 4) rfl rfl Tryz.underlying75 rfl tsz2 rfl) ?_
      refine ops_ex rfl (guard_none rfl) rfl rfl (ex_load1 rfl rfl Tryz.underlying2 rfl ((HM.at_ hc1948) 0 _ rfl)) ?_
      refine ops_does rfl (guard_none rfl) rfl rfl (does_callk rfl callok47 rfl (spec_l1In.calls (x0 := (gt x0.fOuts a1914).fValue) (x1 := 1) (x2 := 1000000) h1952)) ?_
      rintro _ w1953 ⟨rfl, hn⟩
      replace HM : Mem w [] w1953 [] := HM.call hn
      refine ops_ex rfl (guard_none rfl) rfl rfl (ex_not rfl rfl) ?_
      refine ops_nil ?_
      refine at_then ?_
      refine run_cond (b := !t1951) rfl (fun hb1954 => ?_) (fun hb1954 => ?_)
      · replace ho1891 := cond_t hb1954 ho1891
        refine run_seq ?_
        refine run_region rfl ?_
        refine ops_ex rfl (guard_none rfl) rfl rfl (ex_assign rfl rfl) ?_
        refine ops_nil ?_
        refine at_then ?_
        refine run_ret ?_
        refine at_then_ret ?_
        refine at_block_ret ?_
        refine at_then_ret ?_
        refine at_then_ret ?_
        refine at_block_ret ?_
        refine at_then_ret ?_
        have hR := Option.some.inj ho1891
        subst hR
        have hT := thn_inl H
        have hR := Option.some.inj hT
        subst hR
        exact at_ret1 rfl rfl ⟨_, rfl, rfl, HM⟩
      · replace ho1891 := cond_f hb1954 ho1891
        refine run_skip ?_
        refine at_then ?_
        refine run_seq ?_
        obtain ⟨e1955, ho1891⟩ := chk_some ho1891
        obtain ⟨t1959, h1960, ho1891⟩ := bind_some ho1891
        refine run_region rfl ?_
        refine ops_ex rfl (guard_none rfl) rfl rfl (ex_move rfl rfl) ?_
        refine ops_ex rfl (guard_none rfl) rfl rfl (ex_nilCheck rfl rfl) ?_
        refine ops_ex rfl (guard_none rfl) rfl rfl (ex_fieldAddr (off' := f0 + 3) rfl rfl Tryz.underlying37 rfl tsz35 rfl) ?_
        refine ops_ex rfl (guard_none rfl) rfl rfl (ex_load1 rfl rfl Tryz.underlying35 rfl ((HM.at_ hc0) 3 _ rfl)) ?_
        refine ops_ex rfl (guard_none rfl) rfl rfl (ex_move rfl rfl) ?_
        obtain ⟨kv1957, hc1956, hk1958⟩ : ∃ u, CellsAt _ (sb p0_1) (so p0_1 + (a1914).toNat * 4) [(.int .i64 ((gt x0.fOuts a1914).fValue)), u, (.int .i64 ((gt x0.fOuts a1914).fRule.fNeed)), (.int .i64 ((gt x0.fOuts a1914).fRule.fAfter))] ∧ RdS kInt _ u ((gt x0.fOuts a1914).fRule.fKeys) := rd_with1 hp0_1 e1955
        refine ops_ex rfl (guard_none rfl) rfl rfl (ex_indexAddr (d := kOut) rfl rfl rfl Tryz.underlying35 tsz75 hp0_1 (idx_lo e1955) (idx_hi e1955)) ?_
        refine ops_ex rfl (guard_none rfl) rfl rfl (ex_fieldAddr (off' := so p0_1 + (a1914).toNat * 4 + 1) rfl rfl Tryz.underlying75 rfl tsz73 rfl) ?_
        refine ops_does rfl (guard_none rfl) rfl rfl (does_callk rfl callok114 rfl (spec_l2Fault.calls (x0 := (gt x0.fOuts a1914).fRule) (CellsAt.sub (HM.at_ hc1956) 1 3 rfl) (HM.rd hk1958) h1960)) ?_
        rintro _ w1961 ⟨rfl, hn⟩
        replace HM : Mem w [] w1961 [] := HM.call hn
        refine ops_ex rfl (guard_none rfl) rfl rfl (ex_assign rfl rfl) ?_
        refine ops_nil ?_
        refine at_then ?_
        refine run_seq ?_
        refine run_region rfl ?_
        refine ops_ex rfl (guard_none rfl) rfl rfl (ex_move rfl rfl) ?_
        refine ops_ex rfl (guard_none rfl) rfl rfl (ex_neq rfl rfl rfl) ?_
        refine ops_nil ?_
        refine at_then ?_
        refine run_cond (b := (t1959 != 0)) rfl (fun hb1962 => ?_) (fun hb1962 => ?_)
        · replace ho1891 := cond_t hb1962 ho1891
          refine run_seq ?_
          refine run_region rfl ?_
          refine ops_ex rfl (guard_none rfl) rfl rfl (ex_move rfl rfl) ?_
          refine ops_ex rfl (guard_none rfl) rfl rfl (ex_assign rfl rfl) ?_
          refine ops_nil ?_
          refine at_then ?_
          refine run_ret ?_
          refine at_block_ret ?_
          refine at_then_ret ?_
          refine at_then_ret ?_
          refine at_block_ret ?_
          refine at_then_ret ?_
          have hR := Option.some.inj ho1891
          subst hR
          have hT := thn_inl H
          have hR := Option.some.inj hT
          subst hR
          exact at_ret1 rfl rfl ⟨_, rfl, rfl, HM⟩
        · replace ho1891 := cond_f hb1962 ho1891
          refine run_skip ?_
          refine at_block ?_
          refine at_then ?_
          refine run_region rfl ?_
          refine ops_ex rfl (guard_none rfl) rfl rfl (ex_move rfl rfl) ?_
          refine ops_ex rfl (guard_none rfl) rfl rfl (ex_add rfl rfl rfl) ?_
          refine ops_ex rfl (guard_none rfl) rfl rfl (ex_assign rfl rfl) ?_
          refine ops_nil ?_
          exact at_again k1937 (ρ1 := [(0, .pointer (some ⟨b0, f0, none⟩)), (3, .int .i64 (wrap64 (a1914 + 1)))]) (Nat.lt_succ_self _) ⟨_, ho1891, rfl, HM⟩ (Sub.cons rfl (Sub.cons rfl Sub.nil))
    · replace ho1891 := cond_f hb1939 ho1891
      refine run_exit ?_
      refine at_then_exit ?_
      refine at_then_exit ?_
      refine at_block_exit ?_
      exact at_mid (ρ' := [(0, .pointer (some ⟨b0, f0, none⟩))]) ⟨(Option.some.inj ho1891), rfl, HM⟩ (Sub.cons rfl Sub.nil)
  · rintro _ w1963 ⟨rfl, rfl, HM⟩
    replace H := (thn_inr H)
    refine run_seq ?_
    refine run_seq ?_
    obtain ⟨e1964, H⟩ := chk_some H
    refine run_meet (fun ρ_ w_ => ρ_ = [(49, .bool ((x0.fKind == 1) && (decide (((gt x0.fOuts (0 : Int)).fValue) < 100))))] ∧ Mem w [] w_ []) ?_ ?_
    · skip
      refine run_region rfl ?_
      refine ops_ex rfl (guard_none rfl) rfl rfl (ex_move rfl rfl) ?_
      refine ops_ex rfl (guard_none rfl) rfl rfl (ex_nilCheck rfl rfl) ?_
      refine ops_ex rfl (guard_none rfl) rfl rfl (ex_fieldAddr (off' := f0) rfl rfl Tryz.underlying37 rfl tsz2 rfl) ?_
      refine ops_ex rfl (guard_none rfl) rfl rfl (ex_load1 rfl rfl Tryz.underlying2 rfl ((HM.at_ hc0) 0 _ rfl)) ?_
      refine ops_ex rfl (guard_none rfl) rfl rfl (ex_eql rfl rfl rfl) ?_
      refine ops_ex rfl (guard_none rfl) rfl rfl (ex_move rfl rfl) ?_
      refine bool_cases (x0.fKind == 1) (fun hg1968 => ?_) (fun hg1968 => ?_)
      · skip
        refine ops_ex rfl (guard_on rfl rfl rfl hg1968) rfl rfl (ex_move rfl rfl) ?_
        refine ops_ex rfl (guard_on rfl rfl rfl hg1968) rfl rfl (ex_nilCheck rfl rfl) ?_
        refine ops_ex rfl (guard_on rfl rfl rfl hg1968) rfl rfl (ex_fieldAddr (off' := f0 + 3) rfl rfl Tryz.underlying37 rfl tsz35 rfl) ?_
        refine ops_ex rfl (guard_on rfl rfl rfl hg1968) rfl rfl (ex_load1 rfl rfl Tryz.underlying35 rfl ((HM.at_ hc0) 3 _ rfl)) ?_
        obtain ⟨kv1966, hc1965, hk1967⟩ : ∃ u, CellsAt _ (sb p0_1) (so p0_1 + ((0 : Int)).toNat * 4) [(.int .i64 ((gt x0.fOuts (0 : Int)).fValue)), u, (.int .i64 ((gt x0.fOuts (0 : Int)).fRule.fNeed)), (.int .i64 ((gt x0.fOuts (0 : Int)).fRule.fAfter))] ∧ RdS kInt _ u ((gt x0.fOuts (0 : Int)).fRule.fKeys) := rd_with1 hp0_1 (or_t e1964 hg1968)
        refine ops_ex rfl (guard_on rfl rfl rfl hg1968) rfl rfl (ex_indexAddr (d := kOut) rfl rfl rfl Tryz.underlying35 tsz75 hp0_1 (idx_lo (or_t e1964 hg1968)) (idx_hi (or_t e1964 hg1968))) ?_
        refine ops_ex rfl (guard_on rfl rfl rfl hg1968) rfl rfl (ex_fieldAddr (off' := so p0_1 + ((0 : Int)).toNat * 4) rfl rfl Tryz.underlying75 rfl tsz2 rfl) ?_
        refine ops_ex rfl (guard_on rfl rfl rfl hg1968) rfl rfl (ex_load1 rfl rfl Tryz.underlying2 rfl ((HM.at_ hc1965) 0 _ rfl)) ?_
        refine ops_ex rfl (guard_on rfl rfl rfl hg1968) rfl rfl (ex_lss rfl rfl rfl) ?_
        refine ops_ex (v := .bool ((x0.fKind == 1) && (decide (((gt x0.fOuts (0 : Int)).fValue) < 100)))) rfl (guard_none rfl) rfl rfl (ex_pand_t rfl rfl hg1968 rfl) ?_
        refine ops_nil ?_
        exact at_meet [(49, .bool ((x0.fKind == 1) && (decide (((gt x0.fOuts (0 : Int)).fValue) < 100))))] ⟨rfl, HM⟩ (Sub.cons rfl Sub.nil)
      · skip
        refine ops_off rfl (guard_off rfl rfl rfl hg1968) rfl rfl ?_
        refine ops_off rfl (guard_off rfl rfl rfl hg1968) rfl rfl ?_
        refine ops_off rfl (guard_off rfl rfl rfl hg1968) rfl rfl ?_
        refine ops_off rfl (guard_off rfl rfl rfl hg1968) rfl rfl ?_
        refine ops_off rfl (guard_off rfl rfl rfl hg1968) rfl rfl ?_
        refine ops_off rfl (guard_off rfl rfl rfl hg1968) rfl rfl ?_
        refine ops_off rfl (guard_off rfl rfl rfl hg1968) rfl rfl ?_
        refine ops_off rfl (guard_off rfl rfl rfl hg1968) rfl rfl ?_
        have hg1969 : ((x0.fKind == 1) && (decide (((gt x0.fOuts (0 : Int)).fValue) < 100))) = false := by simp only [hg1968, Bool.and_true, Bool.true_and, Bool.and_false, Bool.false_and, Bool.or_true, Bool.true_or, Bool.or_false, Bool.false_or, Bool.not_true, Bool.not_false, Bool.not_not]
        refine ops_ex (v := .bool ((x0.fKind == 1) && (decide (((gt x0.fOuts (0 : Int)).fValue) < 100)))) rfl (guard_none rfl) rfl rfl (ex_pand_f rfl rfl hg1968) ?_
        refine ops_nil ?_
        exact at_meet [(49, .bool ((x0.fKind == 1) && (decide (((gt x0.fOuts (0 : Int)).fValue) < 100))))] ⟨rfl, HM⟩ (Sub.cons rfl Sub.nil)
    · rintro _ w1970 ⟨rfl, HM⟩
      refine at_then ?_
      refine run_cond (b := ((x0.fKind == 1) && (decide (((gt x0.fOuts (0 : Int)).fValue) < 100)))) rfl (fun hb1971 => ?_) (fun hb1971 => ?_)
      · replace H := cond_t hb1971 H
        refine run_seq ?_
        refine run_region rfl ?_
        refine ops_ex rfl (guard_none rfl) rfl rfl (ex_assign rfl rfl) ?_
        refine ops_nil ?_
        refine at_then ?_
        refine run_ret ?_
        refine at_then_ret ?_
        have hR := Option.some.inj H
        subst hR
        exact at_ret1 rfl rfl ⟨_, rfl, rfl, HM⟩
      · replace H := cond_f hb1971 H
        refine run_skip ?_
        refine at_then ?_
        refine run_seq ?_
        refine run_region rfl ?_
        refine ops_ex rfl (guard_none rfl) rfl rfl (ex_assign rfl rfl) ?_
        refine ops_nil ?_
        refine at_then ?_
        refine run_ret ?_
        have hR := Option.some.inj H
        subst hR
        exact at_ret1 rfl rfl ⟨_, rfl, rfl, HM⟩

def spec_l3Fault.l0 (x0 : Tx) : Nat → Int → Option (Int ⊕ Unit)
  | 0, _ => none
  | k + 1, a2092 => (bif (decide (a2092 < (x0.fIns.length : Int))) then (chk (idxOk a2092 x0.fIns.length) ((spec_l3Ref.f k (gt x0.fIns a2092)).bind fun t2123 => (bif !t2123 then some (.inl 3) else (chk (cutOk a2092 x0.fIns.length) (chk (idxOk a2092 x0.fIns.length) ((spec_l3Among.f k (x0.fIns.take (a2092).toNat) (gt x0.fIns a2092)).bind fun t2133 => (bif t2133 then some (.inl 7) else spec_l3Fault.l0 x0 k (wrap64 (a2092 + 1))))))))) else some (.inr ()))
theorem spec_l3Fault.l0_z (x0 : Tx) (a2092 : Int) : spec_l3Fault.l0 x0 0 a2092 = none := rfl
theorem spec_l3Fault.l0_s (x0 : Tx) (k : Nat) (a2092 : Int) : spec_l3Fault.l0 x0 (k + 1) a2092 = (bif (decide (a2092 < (x0.fIns.length : Int))) then (chk (idxOk a2092 x0.fIns.length) ((spec_l3Ref.f k (gt x0.fIns a2092)).bind fun t2123 => (bif !t2123 then some (.inl 3) else (chk (cutOk a2092 x0.fIns.length) (chk (idxOk a2092 x0.fIns.length) ((spec_l3Among.f k (x0.fIns.take (a2092).toNat) (gt x0.fIns a2092)).bind fun t2133 => (bif t2133 then some (.inl 7) else spec_l3Fault.l0 x0 k (wrap64 (a2092 + 1))))))))) else some (.inr ())) := rfl
def spec_l3Fault.f (k : Nat) (x0 : Tx) : Option Int := ((spec_l1In.f k x0.fKind 0 2).bind fun t1977 => (bif ((!t1977) || ((x0.fKind == 0) != (x0.fMember == 0))) then some 1 else ((bif (x0.fKind != 0) then spec_l1Key.f k x0.fMember else some default).bind fun t1987 => (bif ((x0.fKind != 0) && (!t1987)) then some 3 else ((spec_l1In.f k (x0.fIns.length : Int) 1 4).bind fun t1999 => ((bif (!(!t1999)) then spec_l1In.f k (x0.fOuts.length : Int) 1 4 else some default).bind fun t2001 => (bif ((!t1999) || (!t2001)) then some 2 else ((spec_l3Fault.l0 x0 k 0).bind fun o2070 => thn o2070 (fun r => some r) (fun _ => ((spec_l3Outs.f k x0).bind fun t2138 => some t2138))))))))))
theorem spec_l3Fault.calls {k : Nat} {x0 : Tx} {b0 f0 : Nat} {p0_0 : Value} {p0_1 : Value} {w : World} (hc0 : CellsAt w b0 f0 [.int .i64 x0.fKind, .int .i64 x0.fMember, p0_0, p0_1]) (hp0_0 : RdS kRef w p0_0 x0.fIns) (hp0_1 : RdS kOut w p0_1 x0.fOuts) {r : Int} (H : spec_l3Fault.f k x0 = some r) :
    Calls Tryz.prog 33 ([.pointer (some ⟨b0, f0, none⟩)] : List Value).toArray w (fun e w_ => ∃ v, e = .returned v ∧ v = (.int .i64 r) ∧ Mem w [] w_ []) := by
  have HM := Mem.start w
  refine calls_run (N := 86) Tryz.func33 rfl rfl rfl rfl ?_
  unfold spec_l3Fault.f at H
  refine run_seq ?_
  refine run_region rfl ?_
  refine ops_ex rfl (guard_none rfl) rfl rfl (ex_assign rfl rfl) ?_
  refine ops_nil ?_
  refine at_then ?_
  refine run_seq ?_
  refine run_seq ?_
  obtain ⟨t1977, h1978, H⟩ := bind_some H
  refine run_meet (fun ρ_ w_ => ρ_ = [(0, .pointer (some ⟨b0, f0, none⟩)), (22, .bool ((!t1977) || ((x0.fKind == 0) != (x0.fMember == 0))))] ∧ Mem w [] w_ []) ?_ ?_
  · skip
    refine run_drawf (fun w_ => Mem w [] w_ []) [(0, true), (1, true), (2, true), (3, true), (4, false), (5, true), (6, true), (7, true), (8, true), (9, true), (10, true), (11, true), (12, true), (13, true), (14, true), (15, true), (16, true), (17, true), (18, true)] mixed rfl rfl (by kernel_rfl) ?_
    replace HM := HM.grow (fr_drew _)
    have hS := Mem.suf (M := []) HM
    refine drwp_take rfl (guard_none rfl) rfl rfl (fun w_ hS_ => (ex_move rfl rfl)) hS ?_
    refine drwp_take rfl (guard_none rfl) rfl rfl (fun w_ hS_ => (ex_nilCheck rfl rfl)) hS ?_
    refine drwp_take rfl (guard_none rfl) rfl rfl (fun w_ hS_ => (ex_fieldAddr (off' := f0) rfl rfl Tryz.underlying37 rfl tsz2 rfl)) hS ?_
    refine drwp_take rfl (guard_none rfl) rfl rfl (fun w_ hS_ => (ex_load1 rfl rfl Tryz.underlying2 rfl ((hS_.at_ hc0) 0 _ rfl))) hS ?_
    refine drwp_one rfl (guard_none rfl) rfl rfl (does_callk rfl callok47 rfl (spec_l1In.calls (x0 := x0.fKind) (x1 := 0) (x2 := 2) h1978)) ?_
    rintro _ w1979 ⟨rfl, hn⟩
    replace HM : Mem w [] w1979 [] := HM.call hn
    refine ⟨Mem.suf (M := []) HM, ?_⟩
    have hS := Mem.suf (M := []) HM
    refine drwp_take rfl (guard_none rfl) rfl rfl (fun w_ hS_ => (ex_not rfl rfl)) hS ?_
    refine drwp_take rfl (guard_none rfl) rfl rfl (fun w_ hS_ => (ex_move rfl rfl)) hS ?_
    refine bool_cases (!t1977) (fun hg1980 => ?_) (fun hg1980 => ?_)
    · skip
      refine drwp_off rfl (guard_off rfl rfl rfl hg1980) rfl rfl hS ?_
      refine drwp_off rfl (guard_off rfl rfl rfl hg1980) rfl rfl hS ?_
      refine drwp_off rfl (guard_off rfl rfl rfl hg1980) rfl rfl hS ?_
      refine drwp_off rfl (guard_off rfl rfl rfl hg1980) rfl rfl hS ?_
      refine drwp_off rfl (guard_off rfl rfl rfl hg1980) rfl rfl hS ?_
      refine drwp_off rfl (guard_off rfl rfl rfl hg1980) rfl rfl hS ?_
      refine drwp_off rfl (guard_off rfl rfl rfl hg1980) rfl rfl hS ?_
      refine drwp_off rfl (guard_off rfl rfl rfl hg1980) rfl rfl hS ?_
      refine drwp_off rfl (guard_off rfl rfl rfl hg1980) rfl rfl hS ?_
      refine drwp_off rfl (guard_off rfl rfl rfl hg1980) rfl rfl hS ?_
      refine drwp_off rfl (guard_off rfl rfl rfl hg1980) rfl rfl hS ?_
      have hg1981 : ((!t1977) || ((x0.fKind == 0) != (x0.fMember == 0))) = true := by simp only [hg1980, Bool.and_true, Bool.true_and, Bool.and_false, Bool.false_and, Bool.or_true, Bool.true_or, Bool.or_false, Bool.false_or, Bool.not_true, Bool.not_false, Bool.not_not]
      refine drwp_take (v := .bool ((!t1977) || ((x0.fKind == 0) != (x0.fMember == 0)))) rfl (guard_none rfl) rfl rfl (fun w_ hS_ => (ex_por_t rfl rfl hg1980)) hS ?_
      refine drwp_done ?_
      exact at_meet [(0, .pointer (some ⟨b0, f0, none⟩)), (22, .bool ((!t1977) || ((x0.fKind == 0) != (x0.fMember == 0))))] ⟨rfl, HM⟩ (Sub.cons rfl (Sub.cons rfl Sub.nil))
    · skip
      refine drwp_take rfl (guard_on rfl rfl rfl hg1980) rfl rfl (fun w_ hS_ => (ex_move rfl rfl)) hS ?_
      refine drwp_take rfl (guard_on rfl rfl rfl hg1980) rfl rfl (fun w_ hS_ => (ex_nilCheck rfl rfl)) hS ?_
      refine drwp_take rfl (guard_on rfl rfl rfl hg1980) rfl rfl (fun w_ hS_ => (ex_fieldAddr (off' := f0) rfl rfl Tryz.underlying37 rfl tsz2 rfl)) hS ?_
      refine drwp_take rfl (guard_on rfl rfl rfl hg1980) rfl rfl (fun w_ hS_ => (ex_load1 rfl rfl Tryz.underlying2 rfl ((hS_.at_ hc0) 0 _ rfl))) hS ?_
      refine drwp_take rfl (guard_on rfl rfl rfl hg1980) rfl rfl (fun w_ hS_ => (ex_eql rfl rfl rfl)) hS ?_
      refine drwp_take rfl (guard_on rfl rfl rfl hg1980) rfl rfl (fun w_ hS_ => (ex_move rfl rfl)) hS ?_
      refine drwp_take rfl (guard_on rfl rfl rfl hg1980) rfl rfl (fun w_ hS_ => (ex_nilCheck rfl rfl)) hS ?_
      refine drwp_take rfl (guard_on rfl rfl rfl hg1980) rfl rfl (fun w_ hS_ => (ex_fieldAddr (off' := f0 + 1) rfl rfl Tryz.underlying37 rfl tsz2 rfl)) hS ?_
      refine drwp_take rfl (guard_on rfl rfl rfl hg1980) rfl rfl (fun w_ hS_ => (ex_load1 rfl rfl Tryz.underlying2 rfl ((hS_.at_ hc0) 1 _ rfl))) hS ?_
      refine drwp_take rfl (guard_on rfl rfl rfl hg1980) rfl rfl (fun w_ hS_ => (ex_eql rfl rfl rfl)) hS ?_
      refine drwp_take rfl (guard_on rfl rfl rfl hg1980) rfl rfl (fun w_ hS_ => (ex_bneq rfl rfl rfl Tryz.underlying4)) hS ?_
      refine drwp_take (v := .bool ((!t1977) || ((x0.fKind == 0) != (x0.fMember == 0)))) rfl (guard_none rfl) rfl rfl (fun w_ hS_ => (ex_por_f rfl rfl hg1980 rfl)) hS ?_
      refine drwp_done ?_
      exact at_meet [(0, .pointer (some ⟨b0, f0, none⟩)), (22, .bool ((!t1977) || ((x0.fKind == 0) != (x0.fMember == 0))))] ⟨rfl, HM⟩ (Sub.cons rfl (Sub.cons rfl Sub.nil))
  · rintro _ w1982 ⟨rfl, HM⟩
    refine at_then ?_
    refine run_cond (b := ((!t1977) || ((x0.fKind == 0) != (x0.fMember == 0)))) rfl (fun hb1983 => ?_) (fun hb1983 => ?_)
    · replace H := cond_t hb1983 H
      refine run_seq ?_
      refine run_region rfl ?_
      refine ops_ex rfl (guard_none rfl) rfl rfl (ex_assign rfl rfl) ?_
      refine ops_nil ?_
      refine at_then ?_
      refine run_ret ?_
      refine at_then_ret ?_
      have hR := Option.some.inj H
      subst hR
      exact at_ret1 rfl rfl ⟨_, rfl, rfl, HM⟩
    · replace H := cond_f hb1983 H
      refine run_skip ?_
      refine at_then ?_
      refine run_seq ?_
      refine run_seq ?_
      obtain ⟨t1987, h1988, H⟩ := bind_some H
      refine run_meet (fun ρ_ w_ => ρ_ = [(0, .pointer (some ⟨b0, f0, none⟩)), (35, .bool ((x0.fKind != 0) && (!t1987)))] ∧ Mem w [] w_ []) ?_ ?_
      · skip
        refine run_region rfl ?_
        refine ops_ex rfl (guard_none rfl) rfl rfl (ex_move rfl rfl) ?_
        refine ops_ex rfl (guard_none rfl) rfl rfl (ex_nilCheck rfl rfl) ?_
        refine ops_ex rfl (guard_none rfl) rfl rfl (ex_fieldAddr (off' := f0) rfl rfl Tryz.underlying37 rfl tsz2 rfl) ?_
        refine ops_ex rfl (guard_none rfl) rfl rfl (ex_load1 rfl rfl Tryz.underlying2 rfl ((HM.at_ hc0) 0 _ rfl)) ?_
        refine ops_ex rfl (guard_none rfl) rfl rfl (ex_neq rfl rfl rfl) ?_
        refine ops_ex rfl (guard_none rfl) rfl rfl (ex_move rfl rfl) ?_
        refine bool_cases (x0.fKind != 0) (fun hg1989 => ?_) (fun hg1989 => ?_)
        · skip
          refine ops_ex rfl (guard_on rfl rfl rfl hg1989) rfl rfl (ex_move rfl rfl) ?_
          refine ops_ex rfl (guard_on rfl rfl rfl hg1989) rfl rfl (ex_nilCheck rfl rfl) ?_
          refine ops_ex rfl (guard_on rfl rfl rfl hg1989) rfl rfl (ex_fieldAddr (off' := f0 + 1) rfl rfl Tryz.underlying37 rfl tsz2 rfl) ?_
          refine ops_ex rfl (guard_on rfl rfl rfl hg1989) rfl rfl (ex_load1 rfl rfl Tryz.underlying2 rfl ((HM.at_ hc0) 1 _ rfl)) ?_
          refine ops_does rfl (guard_on rfl rfl rfl hg1989) rfl rfl (does_callk rfl callok74 rfl (spec_l1Key.calls (x0 := x0.fMember) (cond_t hg1989 h1988))) ?_
          rintro _ w1990 ⟨rfl, hn⟩
          replace HM : Mem w [] w1990 [] := HM.call hn
          refine ops_ex rfl (guard_on rfl rfl rfl hg1989) rfl rfl (ex_not rfl rfl) ?_
          refine ops_ex (v := .bool ((x0.fKind != 0) && (!t1987))) rfl (guard_none rfl) rfl rfl (ex_pand_t rfl rfl hg1989 rfl) ?_
          refine ops_nil ?_
          exact at_meet [(0, .pointer (some ⟨b0, f0, none⟩)), (35, .bool ((x0.fKind != 0) && (!t1987)))] ⟨rfl, HM⟩ (Sub.cons rfl (Sub.cons rfl Sub.nil))
        · skip
          refine ops_off rfl (guard_off rfl rfl rfl hg1989) rfl rfl ?_
          refine ops_off rfl (guard_off rfl rfl rfl hg1989) rfl rfl ?_
          refine ops_off rfl (guard_off rfl rfl rfl hg1989) rfl rfl ?_
          refine ops_off rfl (guard_off rfl rfl rfl hg1989) rfl rfl ?_
          refine ops_off rfl (guard_off rfl rfl rfl hg1989) rfl rfl ?_
          refine ops_off rfl (guard_off rfl rfl rfl hg1989) rfl rfl ?_
          have hg1991 : ((x0.fKind != 0) && (!t1987)) = false := by simp only [hg1989, Bool.and_true, Bool.true_and, Bool.and_false, Bool.false_and, Bool.or_true, Bool.true_or, Bool.or_false, Bool.false_or, Bool.not_true, Bool.not_false, Bool.not_not]
          refine ops_ex (v := .bool ((x0.fKind != 0) && (!t1987))) rfl (guard_none rfl) rfl rfl (ex_pand_f rfl rfl hg1989) ?_
          refine ops_nil ?_
          exact at_meet [(0, .pointer (some ⟨b0, f0, none⟩)), (35, .bool ((x0.fKind != 0) && (!t1987)))] ⟨rfl, HM⟩ (Sub.cons rfl (Sub.cons rfl Sub.nil))
      · rintro _ w1992 ⟨rfl, HM⟩
        refine at_then ?_
        refine run_cond (b := ((x0.fKind != 0) && (!t1987))) rfl (fun hb1993 => ?_) (fun hb1993 => ?_)
        · replace H := cond_t hb1993 H
          refine run_seq ?_
          refine run_region rfl ?_
          refine ops_ex rfl (guard_none rfl) rfl rfl (ex_assign rfl rfl) ?_
          refine ops_nil ?_
          refine at_then ?_
          refine run_ret ?_
          refine at_then_ret ?_
          have hR := Option.some.inj H
          subst hR
          exact at_ret1 rfl rfl ⟨_, rfl, rfl, HM⟩
        · replace H := cond_f hb1993 H
          refine run_skip ?_
          refine at_then ?_
          refine run_seq ?_
          refine run_seq ?_
          obtain ⟨t1999, h2000, H⟩ := bind_some H
          obtain ⟨t2001, h2002, H⟩ := bind_some H
          refine run_meet (fun ρ_ w_ => ρ_ = [(0, .pointer (some ⟨b0, f0, none⟩)), (51, .bool ((!t1999) || (!t2001)))] ∧ Mem w [] w_ []) ?_ ?_
          · skip
            refine run_region rfl ?_
            refine ops_ex rfl (guard_none rfl) rfl rfl (ex_move rfl rfl) ?_
            refine ops_ex rfl (guard_none rfl) rfl rfl (ex_nilCheck rfl rfl) ?_
            refine ops_ex rfl (guard_none rfl) rfl rfl (ex_fieldAddr (off' := f0 + 2) rfl rfl Tryz.underlying37 rfl tsz34 rfl) ?_
            refine ops_ex rfl (guard_none rfl) rfl rfl (ex_load1 rfl rfl Tryz.underlying34 rfl ((HM.at_ hc0) 2 _ rfl)) ?_
            refine ops_ex rfl (guard_none rfl) rfl rfl (ex_len (d := kRef) (xs := x0.fIns) rfl rfl Tryz.underlying34 hp0_0) ?_
            refine ops_does rfl (guard_none rfl) rfl rfl (does_callk rfl callok47 rfl (spec_l1In.calls (x0 := (x0.fIns.length : Int)) (x1 := 1) (x2 := 4) h2000)) ?_
            rintro _ w2003 ⟨rfl, hn⟩
            replace HM : Mem w [] w2003 [] := HM.call hn
            refine ops_ex rfl (guard_none rfl) rfl rfl (ex_not rfl rfl) ?_
            refine ops_ex rfl (guard_none rfl) rfl rfl (ex_move rfl rfl) ?_
            refine bool_cases (!t1999) (fun hg2004 => ?_) (fun hg2004 => ?_)
            · skip
              refine ops_off rfl (guard_off rfl rfl rfl hg2004) rfl rfl ?_
              refine ops_off rfl (guard_off rfl rfl rfl hg2004) rfl rfl ?_
              refine ops_off rfl (guard_off rfl rfl rfl hg2004) rfl rfl ?_
              refine ops_off rfl (guard_off rfl rfl rfl hg2004) rfl rfl ?_
              refine ops_off rfl (guard_off rfl rfl rfl hg2004) rfl rfl ?_
              refine ops_off rfl (guard_off rfl rfl rfl hg2004) rfl rfl ?_
              refine ops_off rfl (guard_off rfl rfl rfl hg2004) rfl rfl ?_
              have hg2005 : ((!t1999) || (!t2001)) = true := by simp only [hg2004, Bool.and_true, Bool.true_and, Bool.and_false, Bool.false_and, Bool.or_true, Bool.true_or, Bool.or_false, Bool.false_or, Bool.not_true, Bool.not_false, Bool.not_not]
              refine ops_ex (v := .bool ((!t1999) || (!t2001))) rfl (guard_none rfl) rfl rfl (ex_por_t rfl rfl hg2004) ?_
              refine ops_nil ?_
              exact at_meet [(0, .pointer (some ⟨b0, f0, none⟩)), (51, .bool ((!t1999) || (!t2001)))] ⟨rfl, HM⟩ (Sub.cons rfl (Sub.cons rfl Sub.nil))
            · skip
              refine ops_ex rfl (guard_on rfl rfl rfl hg2004) rfl rfl (ex_move rfl rfl) ?_
              refine ops_ex rfl (guard_on rfl rfl rfl hg2004) rfl rfl (ex_nilCheck rfl rfl) ?_
              refine ops_ex rfl (guard_on rfl rfl rfl hg2004) rfl rfl (ex_fieldAddr (off' := f0 + 3) rfl rfl Tryz.underlying37 rfl tsz35 rfl) ?_
              refine ops_ex rfl (guard_on rfl rfl rfl hg2004) rfl rfl (ex_load1 rfl rfl Tryz.underlying35 rfl ((HM.at_ hc0) 3 _ rfl)) ?_
              refine ops_ex rfl (guard_on rfl rfl rfl hg2004) rfl rfl (ex_len (d := kOut) (xs := x0.fOuts) rfl rfl Tryz.underlying35 hp0_1) ?_
              refine ops_does rfl (guard_on rfl rfl rfl hg2004) rfl rfl (does_callk rfl callok47 rfl (spec_l1In.calls (x0 := (x0.fOuts.length : Int)) (x1 := 1) (x2 := 4) (cond_t (not_mk hg2004) h2002))) ?_
              rintro _ w2006 ⟨rfl, hn⟩
              replace HM : Mem w [] w2006 [] := HM.call hn
              refine ops_ex rfl (guard_on rfl rfl rfl hg2004) rfl rfl (ex_not rfl rfl) ?_
              refine ops_ex (v := .bool ((!t1999) || (!t2001))) rfl (guard_none rfl) rfl rfl (ex_por_f rfl rfl hg2004 rfl) ?_
              refine ops_nil ?_
              exact at_meet [(0, .pointer (some ⟨b0, f0, none⟩)), (51, .bool ((!t1999) || (!t2001)))] ⟨rfl, HM⟩ (Sub.cons rfl (Sub.cons rfl Sub.nil))
          · rintro _ w2007 ⟨rfl, HM⟩
            refine at_then ?_
            refine run_cond (b := ((!t1999) || (!t2001))) rfl (fun hb2008 => ?_) (fun hb2008 => ?_)
            · replace H := cond_t hb2008 H
              refine run_seq ?_
              refine run_region rfl ?_
              refine ops_ex rfl (guard_none rfl) rfl rfl (ex_assign rfl rfl) ?_
              refine ops_nil ?_
              refine at_then ?_
              refine run_ret ?_
              refine at_then_ret ?_
              have hR := Option.some.inj H
              subst hR
              exact at_ret1 rfl rfl ⟨_, rfl, rfl, HM⟩
            · replace H := cond_f hb2008 H
              refine run_skip ?_
              refine at_then ?_
              obtain ⟨o2070, ho2071, H⟩ := bind_some H
              refine run_mid (fun ρ_ w_ => Sum.inr () = o2070 ∧ ρ_ = [(0, .pointer (some ⟨b0, f0, none⟩))] ∧ Mem w [] w_ []) ?_ ?_
              · skip
                refine run_seq ?_
                refine run_region rfl ?_
                refine ops_ex rfl (guard_none rfl) rfl rfl (ex_assign rfl rfl) ?_
                refine ops_nil ?_
                refine at_then ?_
                refine run_block ?_
                refine run_loop (fun k_ ρ_ w_ => ∃ a2092 : Int, spec_l3Fault.l0 x0 k_ a2092 = some o2070 ∧ ρ_ = [(0, .pointer (some ⟨b0, f0, none⟩)), (3, .int .i64 a2092)] ∧ Mem w [] w_ []) k (ρ1 := [(0, .pointer (some ⟨b0, f0, none⟩)), (3, .int .i64 0)]) ⟨_, ho2071, rfl, HM⟩ (Sub.cons rfl (Sub.cons rfl Sub.nil)) ?_
                clear HM ho2071
                rintro k2113 _ w2114 ⟨a2092, ho2071, rfl, HM⟩
                obtain _ | k2113 := k2113
                · exact nomatch ((spec_l3Fault.l0_z x0 a2092).symm.trans ho2071)
                replace ho2071 := (spec_l3Fault.l0_s x0 k2113 a2092).symm.trans ho2071
                refine run_seq ?_
                refine run_seq ?_
                refine run_region rfl ?_
                refine ops_ex rfl (guard_none rfl) rfl rfl (ex_move rfl rfl) ?_
                refine ops_ex rfl (guard_none rfl) rfl rfl (ex_move rfl rfl) ?_
                refine ops_ex rfl (guard_none rfl) rfl rfl (ex_nilCheck rfl rfl) ?_
                refine ops_ex rfl (guard_none rfl) rfl rfl (ex_fieldAddr (off' := f0 + 2) rfl rfl Tryz.underlying37 rfl tsz34 rfl) ?_
                refine ops_ex rfl (guard_none rfl) rfl rfl (ex_load1 rfl rfl Tryz.underlying34 rfl ((HM.at_ hc0) 2 _ rfl)) ?_
                refine ops_ex rfl (guard_none rfl) rfl rfl (ex_len (d := kRef) (xs := x0.fIns) rfl rfl Tryz.underlying34 hp0_0) ?_
                refine ops_ex rfl (guard_none rfl) rfl rfl (ex_lss rfl rfl rfl) ?_
                refine ops_nil ?_
                refine at_then ?_
                refine run_cond (b := (decide (a2092 < (x0.fIns.length : Int)))) rfl (fun hb2115 => ?_) (fun hb2115 => ?_)
                · replace ho2071 := cond_t hb2115 ho2071
                  refine run_skip ?_
                  refine at_then ?_
                  refine run_seq ?_
                  refine run_block ?_
                  refine run_seq ?_
                  refine run_seq ?_
                  obtain ⟨e2121, ho2071⟩ := chk_some ho2071
                  obtain ⟨t2123, h2124, ho2071⟩ := bind_some ho2071
                  refine run_region rfl ?_
                  refine ops_ex rfl (guard_none rfl) rfl rfl (ex_move rfl rfl) ?_
                  refine ops_ex rfl (guard_none rfl) rfl rfl (ex_nilCheck rfl rfl) ?_
                  refine ops_ex rfl (guard_none rfl) rfl rfl (ex_fieldAddr (off' := f0 + 2) rfl rfl Tryz.underlying37 rfl tsz34 rfl) ?_
                  refine ops_ex rfl (guard_none rfl) rfl rfl (ex_load1 rfl rfl Tryz.underlying34 rfl ((HM.at_ hc0) 2 _ rfl)) ?_
                  refine ops_ex rfl (guard_none rfl) rfl rfl (ex_move rfl rfl) ?_
                  have hc2122 : CellsAt _ (sb p0_0) (so p0_0 + (a2092).toNat * 2) [(.int .i64 ((gt x0.fIns a2092).fTx)), (.int .i64 ((gt x0.fIns a2092).fAt))] := rd_plain hp0_0 e2121
                  refine ops_ex rfl (guard_none rfl) rfl rfl (ex_indexAddr (d := kRef) rfl rfl rfl Tryz.underlying34 tsz56 hp0_0 (idx_lo e2121) (idx_hi e2121)) ?_
                  refine ops_ex rfl (guard_none rfl) rfl rfl (ex_loadN (cs := [(.int .i64 ((gt x0.fIns a2092).fTx)), (.int .i64 ((gt x0.fIns a2092).fAt))]) rfl rfl Tryz.underlying56 rfl tsz56 rfl ((HM.at_ hc2122).sub 0 2 rfl)) ?_
                  refine ops_does rfl (guard_none rfl) rfl rfl (does_callk rfl callok70 rfl (spec_l3Ref.calls (x0 := (gt x0.fIns a2092)) h2124)) ?_
                  rintro _ w2125 ⟨rfl, hn⟩
                  replace HM : Mem w [] w2125 [] := HM.call hn
                  refine ops_ex rfl (guard_none rfl) rfl rfl (ex_not rfl rfl) ?_
                  refine ops_nil ?_
                  refine at_then ?_
                  refine run_cond (b := !t2123) rfl (fun hb2126 => ?_) (fun hb2126 => ?_)
                  · replace ho2071 := cond_t hb2126 ho2071
                    refine run_seq ?_
                    refine run_region rfl ?_
                    refine ops_ex rfl (guard_none rfl) rfl rfl (ex_assign rfl rfl) ?_
                    refine ops_nil ?_
                    refine at_then ?_
                    refine run_ret ?_
                    refine at_then_ret ?_
                    refine at_block_ret ?_
                    refine at_then_ret ?_
                    refine at_then_ret ?_
                    refine at_block_ret ?_
                    refine at_then_ret ?_
                    have hR := Option.some.inj ho2071
                    subst hR
                    have hT := thn_inl H
                    have hR := Option.some.inj hT
                    subst hR
                    exact at_ret1 rfl rfl ⟨_, rfl, rfl, HM⟩
                  · replace ho2071 := cond_f hb2126 ho2071
                    refine run_skip ?_
                    refine at_then ?_
                    refine run_seq ?_
                    obtain ⟨e2127, ho2071⟩ := chk_some ho2071
                    obtain ⟨e2131, ho2071⟩ := chk_some ho2071
                    obtain ⟨t2133, h2134, ho2071⟩ := bind_some ho2071
                    refine run_drawf (fun w_ => Mem w [] w_ []) [(0, true), (1, true), (2, true), (3, true), (4, true), (5, true), (6, true), (7, true), (8, true), (9, true), (10, true), (11, true), (12, true), (13, false)] mixed rfl rfl (by kernel_rfl) ?_
                    replace HM := HM.grow (fr_drew _)
                    have hS := Mem.suf (M := []) HM
                    refine drwp_take rfl (guard_none rfl) rfl rfl (fun w_ hS_ => (ex_move rfl rfl)) hS ?_
                    refine drwp_take rfl (guard_none rfl) rfl rfl (fun w_ hS_ => (ex_nilCheck rfl rfl)) hS ?_
                    refine drwp_take rfl (guard_none rfl) rfl rfl (fun w_ hS_ => (ex_fieldAddr (off' := f0 + 2) rfl rfl Tryz.underlying37 rfl tsz34 rfl)) hS ?_
                    refine drwp_take rfl (guard_none rfl) rfl rfl (fun w_ hS_ => (ex_load1 rfl rfl Tryz.underlying34 rfl ((hS_.at_ hc0) 2 _ rfl))) hS ?_
                    refine drwp_take rfl (guard_none rfl) rfl rfl (fun w_ hS_ => (ex_move rfl rfl)) hS ?_
                    refine drwp_takeE rfl (guard_none rfl) rfl rfl (ex_cutH kRef rfl rfl rfl Tryz.underlying34 tsz56 hp0_0 e2127) hS ?_
                    rintro u2128 hr2130
                    refine drwp_take rfl (guard_none rfl) rfl rfl (fun w_ hS_ => (ex_move rfl rfl)) hS ?_
                    refine drwp_take rfl (guard_none rfl) rfl rfl (fun w_ hS_ => (ex_nilCheck rfl rfl)) hS ?_
                    refine drwp_take rfl (guard_none rfl) rfl rfl (fun w_ hS_ => (ex_fieldAddr (off' := f0 + 2) rfl rfl Tryz.underlying37 rfl tsz34 rfl)) hS ?_
                    refine drwp_take rfl (guard_none rfl) rfl rfl (fun w_ hS_ => (ex_load1 rfl rfl Tryz.underlying34 rfl ((hS_.at_ hc0) 2 _ rfl))) hS ?_
                    refine drwp_take rfl (guard_none rfl) rfl rfl (fun w_ hS_ => (ex_move rfl rfl)) hS ?_
                    have hc2132 : CellsAt _ (sb p0_0) (so p0_0 + (a2092).toNat * 2) [(.int .i64 ((gt x0.fIns a2092).fTx)), (.int .i64 ((gt x0.fIns a2092).fAt))] := rd_plain hp0_0 e2131
                    refine drwp_take rfl (guard_none rfl) rfl rfl (fun w_ hS_ => (ex_indexAddr (d := kRef) rfl rfl rfl Tryz.underlying34 tsz56 hp0_0 (idx_lo e2131) (idx_hi e2131))) hS ?_
                    refine drwp_take rfl (guard_none rfl) rfl rfl (fun w_ hS_ => (ex_loadN (cs := [(.int .i64 ((gt x0.fIns a2092).fTx)), (.int .i64 ((gt x0.fIns a2092).fAt))]) rfl rfl Tryz.underlying56 rfl tsz56 rfl ((hS_.at_ hc2132).sub 0 2 rfl))) hS ?_
                    refine drwp_one rfl (guard_none rfl) rfl rfl (does_callk rfl callok75 rfl (spec_l3Among.calls (x0 := x0.fIns.take (a2092).toNat) (x1 := (gt x0.fIns a2092)) (HM.rd hr2130) h2134)) ?_
                    rintro _ w2135 ⟨rfl, hn⟩
                    replace HM : Mem w [] w2135 [] := HM.call hn
                    refine ⟨Mem.suf (M := []) HM, ?_⟩
                    have hS := Mem.suf (M := []) HM
                    refine drwp_done ?_
                    refine at_then ?_
                    refine run_cond (b := t2133) rfl (fun hb2136 => ?_) (fun hb2136 => ?_)
                    · replace ho2071 := cond_t hb2136 ho2071
                      refine run_seq ?_
                      refine run_region rfl ?_
                      refine ops_ex rfl (guard_none rfl) rfl rfl (ex_assign rfl rfl) ?_
                      refine ops_nil ?_
                      refine at_then ?_
                      refine run_ret ?_
                      refine at_block_ret ?_
                      refine at_then_ret ?_
                      refine at_then_ret ?_
                      refine at_block_ret ?_
                      refine at_then_ret ?_
                      have hR := Option.some.inj ho2071
                      subst hR
                      have hT := thn_inl H
                      have hR := Option.some.inj hT
                      subst hR
                      exact at_ret1 rfl rfl ⟨_, rfl, rfl, HM⟩
                    · replace ho2071 := cond_f hb2136 ho2071
                      refine run_skip ?_
                      refine at_block ?_
                      refine at_then ?_
                      refine run_region rfl ?_
                      refine ops_ex rfl (guard_none rfl) rfl rfl (ex_move rfl rfl) ?_
                      refine ops_ex rfl (guard_none rfl) rfl rfl (ex_add rfl rfl rfl) ?_
                      refine ops_ex rfl (guard_none rfl) rfl rfl (ex_assign rfl rfl) ?_
                      refine ops_nil ?_
                      exact at_again k2113 (ρ1 := [(0, .pointer (some ⟨b0, f0, none⟩)), (3, .int .i64 (wrap64 (a2092 + 1)))]) (Nat.lt_succ_self _) ⟨_, ho2071, rfl, HM⟩ (Sub.cons rfl (Sub.cons rfl Sub.nil))
                · replace ho2071 := cond_f hb2115 ho2071
                  refine run_exit ?_
                  refine at_then_exit ?_
                  refine at_then_exit ?_
                  refine at_block_exit ?_
                  exact at_mid (ρ' := [(0, .pointer (some ⟨b0, f0, none⟩))]) ⟨(Option.some.inj ho2071), rfl, HM⟩ (Sub.cons rfl Sub.nil)
              · rintro _ w2137 ⟨rfl, rfl, HM⟩
                replace H := (thn_inr H)
                refine run_seq ?_
                obtain ⟨t2138, h2139, H⟩ := bind_some H
                refine run_region rfl ?_
                refine ops_ex rfl (guard_none rfl) rfl rfl (ex_move rfl rfl) ?_
                refine ops_does rfl (guard_none rfl) rfl rfl (does_callk rfl callok76 rfl (spec_l3Outs.calls (x0 := x0) (HM.at_ hc0) (HM.rd hp0_0) (HM.rd hp0_1) h2139)) ?_
                rintro _ w2140 ⟨rfl, hn⟩
                replace HM : Mem w [] w2140 [] := HM.call hn
                refine ops_ex rfl (guard_none rfl) rfl rfl (ex_assign rfl rfl) ?_
                refine ops_nil ?_
                refine at_then ?_
                refine run_ret ?_
                have hR := Option.some.inj H
                subst hR
                exact at_ret1 rfl rfl ⟨_, rfl, rfl, HM⟩
end Go.Proofs.YtcamddjlhchkfaaGreat.Zk
