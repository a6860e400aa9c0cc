/- What functions of the program compute, each as a plain function, and that they do. Conditions: as each theorem states them. -/
import Derived.Test.YtcamddjlhchkfaaGreatSpendTxZkF1
namespace Go.Proofs.YtcamddjlhchkfaaGreat.Zk
open Go Go.RowKit Go.IntWalk Go.Proofs
set_option linter.unusedVariables false
set_option linter.unusedSimpArgs false
set_option maxRecDepth 100000
set_option maxHeartbeats 4000000
def spec_l4Ahead.f (k : Nat) (x0 : Ref) (x1 : Ref) : Option Bool := (bif (x0.fTx != x1.fTx) then some (decide (x0.fTx < x1.fTx)) else some (decide (x0.fAt < x1.fAt)))
theorem spec_l4Ahead.calls {k : Nat} {x0 : Ref} {x1 : Ref}  {w : World}  {r : Bool} (H : spec_l4Ahead.f k x0 x1 = some r) :
    Calls Tryz.prog 73 ([.agg #[(.int .i64 x0.fTx), (.int .i64 x0.fAt)], .agg #[(.int .i64 x1.fTx), (.int .i64 x1.fAt)]] : List Value).toArray w (fun e w_ => ∃ v, e = .returned v ∧ v = (.bool r) ∧ Mem w [] w_ []) := by
  have HM := Mem.start w
  refine calls_run (N := 20) Tryz.func73 rfl rfl rfl rfl ?_
  unfold spec_l4Ahead.f at H
  refine run_seq ?_
  refine run_region rfl ?_
  refine ops_does rfl (guard_none rfl) rfl rfl (does_box (cs := [.int .i64 x0.fTx, .int .i64 x0.fAt]) rfl rfl rfl HM) ?_
  rintro _ w1166 ⟨b1160, rfl, HM⟩
  refine ops_does rfl (guard_none rfl) rfl rfl (does_box (cs := [.int .i64 x1.fTx, .int .i64 x1.fAt]) rfl rfl rfl HM) ?_
  rintro _ w1167 ⟨b1163, rfl, HM⟩
  refine ops_ex rfl (guard_none rfl) rfl rfl (ex_assign rfl rfl) ?_
  refine ops_nil ?_
  refine at_then ?_
  refine run_seq ?_
  refine run_seq ?_
  refine run_region rfl ?_
  refine ops_ex rfl (guard_none rfl) rfl rfl (ex_fieldAddr (off' := 0) rfl rfl Tryz.underlying56 rfl tsz2 rfl) ?_
  refine ops_ex rfl (guard_none rfl) rfl rfl (ex_load1 rfl rfl Tryz.underlying2 rfl ((HM.box_at 1 rfl) 0 _ rfl)) ?_
  refine ops_ex rfl (guard_none rfl) rfl rfl (ex_fieldAddr (off' := 0) rfl rfl Tryz.underlying56 rfl tsz2 rfl) ?_
  refine ops_ex rfl (guard_none rfl) rfl rfl (ex_load1 rfl rfl Tryz.underlying2 rfl ((HM.box_at 0 rfl) 0 _ rfl)) ?_
  refine ops_ex rfl (guard_none rfl) rfl rfl (ex_neq rfl rfl rfl) ?_
  refine ops_nil ?_
  refine at_then ?_
  refine run_cond (b := (x0.fTx != x1.fTx)) rfl (fun hb1169 => ?_) (fun hb1169 => ?_)
  · replace H := cond_t hb1169 H
    refine run_seq ?_
    refine run_region rfl ?_
    refine ops_ex rfl (guard_none rfl) rfl rfl (ex_fieldAddr (off' := 0) rfl rfl Tryz.underlying56 rfl tsz2 rfl) ?_
    refine ops_ex rfl (guard_none rfl) rfl rfl (ex_load1 rfl rfl Tryz.underlying2 rfl ((HM.box_at 1 rfl) 0 _ rfl)) ?_
    refine ops_ex rfl (guard_none rfl) rfl rfl (ex_fieldAddr (off' := 0) rfl rfl Tryz.underlying56 rfl tsz2 rfl) ?_
    refine ops_ex rfl (guard_none rfl) rfl rfl (ex_load1 rfl rfl Tryz.underlying2 rfl ((HM.box_at 0 rfl) 0 _ rfl)) ?_
    refine ops_ex rfl (guard_none rfl) rfl rfl (ex_lss rfl rfl rfl) ?_
    refine ops_ex rfl (guard_none rfl) rfl rfl (ex_assign rfl rfl) ?_
    refine ops_nil ?_
    refine at_then ?_
    refine run_ret ?_
    refine at_then_ret ?_
    replace HM := (HM.front 0 rfl rfl).drop
    replace HM := (HM.front 0 rfl rfl).drop
    have hR := Option.some.inj H
    subst hR
    exact at_ret1 rfl rfl ⟨_, rfl, rfl, HM⟩
  · replace H := cond_f hb1169 H
    refine run_skip ?_
    refine at_then ?_
    refine run_seq ?_
    refine run_region rfl ?_
    refine ops_ex rfl (guard_none rfl) rfl rfl (ex_fieldAddr (off' := 1) rfl rfl Tryz.underlying56 rfl tsz2 rfl) ?_
    refine ops_ex rfl (guard_none rfl) rfl rfl (ex_load1 rfl rfl Tryz.underlying2 rfl ((HM.box_at 1 rfl) 1 _ rfl)) ?_
    refine ops_ex rfl (guard_none rfl) rfl rfl (ex_fieldAddr (off' := 1) rfl rfl Tryz.underlying56 rfl tsz2 rfl) ?_
    refine ops_ex rfl (guard_none rfl) rfl rfl (ex_load1 rfl rfl Tryz.underlying2 rfl ((HM.box_at 0 rfl) 1 _ rfl)) ?_
    refine ops_ex rfl (guard_none rfl) rfl rfl (ex_lss rfl rfl rfl) ?_
    refine ops_ex rfl (guard_none rfl) rfl rfl (ex_assign rfl rfl) ?_
    refine ops_nil ?_
    refine at_then ?_
    refine run_ret ?_
    replace HM := (HM.front 0 rfl rfl).drop
    replace HM := (HM.front 0 rfl rfl).drop
    have hR := Option.some.inj H
    subst hR
    exact at_ret1 rfl rfl ⟨_, rfl, rfl, HM⟩

def spec_l4Fault.l0 (x0 : List Coin) : Nat → Int → Option (Int ⊕ Unit)
  | 0, _ => none
  | k + 1, a1493 => (bif (decide (a1493 < (x0.length : Int))) then (chk (idxOk a1493 x0.length) ((spec_l3Ref.f k ((gt x0 a1493).fRef)).bind fun t1566 => (chk (!(!(!t1566)) || (idxOk a1493 x0.length)) ((bif (!(!t1566)) then spec_l2Height.f k ((gt x0 a1493).fHeight) else some default).bind fun t1572 => (bif ((!t1566) || (!t1572)) then some (.inl 3) else (chk (idxOk a1493 x0.length) ((spec_l4Out.f k ((gt x0 a1493).fOut)).bind fun t1591 => (bif (t1591 != 0) then some (.inl t1591) else (chk (!(decide (0 < a1493)) || (idxOk (wrap64 (a1493 - 1)) x0.length)) (chk (!(decide (0 < a1493)) || (idxOk a1493 x0.length)) ((bif (decide (0 < a1493)) then spec_l4Ahead.f k ((gt x0 (wrap64 (a1493 - 1))).fRef) ((gt x0 a1493).fRef) else some default).bind fun t1603 => (bif ((decide (0 < a1493)) && (!t1603)) then some (.inl 1) else spec_l4Fault.l0 x0 k (wrap64 (a1493 + 1)))))))))))))) else some (.inr ()))
theorem spec_l4Fault.l0_z (x0 : List Coin) (a1493 : Int) : spec_l4Fault.l0 x0 0 a1493 = none := rfl
theorem spec_l4Fault.l0_s (x0 : List Coin) (k : Nat) (a1493 : Int) : spec_l4Fault.l0 x0 (k + 1) a1493 = (bif (decide (a1493 < (x0.length : Int))) then (chk (idxOk a1493 x0.length) ((spec_l3Ref.f k ((gt x0 a1493).fRef)).bind fun t1566 => (chk (!(!(!t1566)) || (idxOk a1493 x0.length)) ((bif (!(!t1566)) then spec_l2Height.f k ((gt x0 a1493).fHeight) else some default).bind fun t1572 => (bif ((!t1566) || (!t1572)) then some (.inl 3) else (chk (idxOk a1493 x0.length) ((spec_l4Out.f k ((gt x0 a1493).fOut)).bind fun t1591 => (bif (t1591 != 0) then some (.inl t1591) else (chk (!(decide (0 < a1493)) || (idxOk (wrap64 (a1493 - 1)) x0.length)) (chk (!(decide (0 < a1493)) || (idxOk a1493 x0.length)) ((bif (decide (0 < a1493)) then spec_l4Ahead.f k ((gt x0 (wrap64 (a1493 - 1))).fRef) ((gt x0 a1493).fRef) else some default).bind fun t1603 => (bif ((decide (0 < a1493)) && (!t1603)) then some (.inl 1) else spec_l4Fault.l0 x0 k (wrap64 (a1493 + 1)))))))))))))) else some (.inr ())) := rfl
def spec_l4Fault.f (k : Nat) (x0 : List Coin) : Option Int := (bif (decide (40 < (x0.length : Int))) then some 2 else ((spec_l4Fault.l0 x0 k 0).bind fun o1439 => thn o1439 (fun r => some r) (fun _ => some 0)))
theorem spec_l4Fault.calls {k : Nat} {x0 : List Coin} {p0 : Value} {w : World} (hp0 : RdS kCoin w p0 x0) {r : Int} (H : spec_l4Fault.f k x0 = some r) :
    Calls Tryz.prog 32 ([p0] : List Value).toArray w (fun e w_ => ∃ v, e = .returned v ∧ v = (.int .i64 r) ∧ Mem w [] w_ []) := by
  have HM := Mem.start w
  refine calls_run (N := 55) Tryz.func32 rfl rfl rfl rfl ?_
  unfold spec_l4Fault.f at H
  refine run_seq ?_
  refine run_region rfl ?_
  refine ops_ex rfl (guard_none rfl) rfl rfl (ex_assign rfl rfl) ?_
  refine ops_nil ?_
  refine at_then ?_
  refine run_seq ?_
  refine run_seq ?_
  refine run_region rfl ?_
  refine ops_ex rfl (guard_none rfl) rfl rfl (ex_move rfl rfl) ?_
  refine ops_ex rfl (guard_none rfl) rfl rfl (ex_len (d := kCoin) (xs := x0) rfl rfl Tryz.underlying29 hp0) ?_
  refine ops_ex rfl (guard_none rfl) rfl rfl (ex_gtr rfl rfl rfl) ?_
  refine ops_nil ?_
  refine at_then ?_
  refine run_cond (b := (decide (40 < (x0.length : Int)))) rfl (fun hb1281 => ?_) (fun hb1281 => ?_)
  · replace H := cond_t hb1281 H
    refine run_seq ?_
    refine run_region rfl ?_
    refine ops_ex rfl (guard_none rfl) rfl rfl (ex_assign rfl rfl) ?_
    refine ops_nil ?_
    refine at_then ?_
    refine run_ret ?_
    refine at_then_ret ?_
    have hR := Option.some.inj H
    subst hR
    exact at_ret1 rfl rfl ⟨_, rfl, rfl, HM⟩
  · replace H := cond_f hb1281 H
    refine run_skip ?_
    refine at_then ?_
    obtain ⟨o1439, ho1440, H⟩ := bind_some H
    refine run_mid (fun ρ_ w_ => Sum.inr () = o1439 ∧ ρ_ = [] ∧ Mem w [] w_ []) ?_ ?_
    · skip
      refine run_seq ?_
      refine run_region rfl ?_
      refine ops_ex rfl (guard_none rfl) rfl rfl (ex_assign rfl rfl) ?_
      refine ops_nil ?_
      refine at_then ?_
      refine run_block ?_
      refine run_loop (fun k_ ρ_ w_ => ∃ a1493 : Int, spec_l4Fault.l0 x0 k_ a1493 = some o1439 ∧ ρ_ = [(0, p0), (3, .int .i64 a1493)] ∧ Mem w [] w_ []) k (ρ1 := [(0, p0), (3, .int .i64 0)]) ⟨_, ho1440, rfl, HM⟩ (Sub.cons rfl (Sub.cons rfl Sub.nil)) ?_
      clear HM ho1440
      rintro k1546 _ w1547 ⟨a1493, ho1440, rfl, HM⟩
      obtain _ | k1546 := k1546
      · exact nomatch ((spec_l4Fault.l0_z x0 a1493).symm.trans ho1440)
      replace ho1440 := (spec_l4Fault.l0_s x0 k1546 a1493).symm.trans ho1440
      refine run_seq ?_
      refine run_seq ?_
      refine run_region rfl ?_
      refine ops_ex rfl (guard_none rfl) rfl rfl (ex_move rfl rfl) ?_
      refine ops_ex rfl (guard_none rfl) rfl rfl (ex_move rfl rfl) ?_
      refine ops_ex rfl (guard_none rfl) rfl rfl (ex_len (d := kCoin) (xs := x0) rfl rfl Tryz.underlying29 hp0) ?_
      refine ops_ex rfl (guard_none rfl) rfl rfl (ex_lss rfl rfl rfl) ?_
      refine ops_nil ?_
      refine at_then ?_
      refine run_cond (b := (decide (a1493 < (x0.length : Int)))) rfl (fun hb1548 => ?_) (fun hb1548 => ?_)
      · replace ho1440 := cond_t hb1548 ho1440
        refine run_skip ?_
        refine at_then ?_
        refine run_seq ?_
        refine run_block ?_
        refine run_seq ?_
        refine run_seq ?_
        obtain ⟨e1562, ho1440⟩ := chk_some ho1440
        obtain ⟨t1566, h1567, ho1440⟩ := bind_some ho1440
        obtain ⟨e1568, ho1440⟩ := chk_some ho1440
        obtain ⟨t1572, h1573, ho1440⟩ := bind_some ho1440
        refine run_meet (fun ρ_ w_ => ρ_ = [(0, p0), (3, .int .i64 a1493), (29, .bool ((!t1566) || (!t1572)))] ∧ Mem w [] w_ []) ?_ ?_
        · skip
          refine run_region rfl ?_
          refine ops_ex rfl (guard_none rfl) rfl rfl (ex_move rfl rfl) ?_
          refine ops_ex rfl (guard_none rfl) rfl rfl (ex_move rfl rfl) ?_
          obtain ⟨kv1564, hc1563, hk1565⟩ : ∃ u, CellsAt _ (sb p0) (so p0 + (a1493).toNat * 8) [(.int .i64 ((gt x0 a1493).fRef.fTx)), (.int .i64 ((gt x0 a1493).fRef.fAt)), (.int .i64 ((gt x0 a1493).fOut.fValue)), u, (.int .i64 ((gt x0 a1493).fOut.fRule.fNeed)), (.int .i64 ((gt x0 a1493).fOut.fRule.fAfter)), (.int .i64 ((gt x0 a1493).fHeight)), (.bool ((gt x0 a1493).fMined))] ∧ RdS kInt _ u ((gt x0 a1493).fOut.fRule.fKeys) := rd_with1 hp0 e1562
          refine ops_ex rfl (guard_none rfl) rfl rfl (ex_indexAddr (d := kCoin) rfl rfl rfl Tryz.underlying29 tsz77 hp0 (idx_lo e1562) (idx_hi e1562)) ?_
          refine ops_ex rfl (guard_none rfl) rfl rfl (ex_fieldAddr (off' := so p0 + (a1493).toNat * 8) rfl rfl Tryz.underlying77 rfl tsz56 rfl) ?_
          refine ops_ex rfl (guard_none rfl) rfl rfl (ex_loadN (cs := [(.int .i64 ((gt x0 a1493).fRef.fTx)), (.int .i64 ((gt x0 a1493).fRef.fAt))]) rfl rfl Tryz.underlying56 rfl tsz56 rfl ((HM.at_ hc1563).sub 0 2 rfl)) ?_
          refine ops_does rfl (guard_none rfl) rfl rfl (does_callk rfl callok70 rfl (spec_l3Ref.calls (x0 := (gt x0 a1493).fRef) h1567)) ?_
          rintro _ w1574 ⟨rfl, hn⟩
          replace HM : Mem w [] w1574 [] := HM.call hn
          refine ops_ex rfl (guard_none rfl) rfl rfl (ex_not rfl rfl) ?_
          refine ops_ex rfl (guard_none rfl) rfl rfl (ex_move rfl rfl) ?_
          refine bool_cases (!t1566) (fun hg1575 => ?_) (fun hg1575 => ?_)
          · skip
            refine ops_off rfl (guard_off rfl rfl rfl hg1575) rfl rfl ?_
            refine ops_off rfl (guard_off rfl rfl rfl hg1575) rfl rfl ?_
            refine ops_off rfl (guard_off rfl rfl rfl hg1575) rfl rfl ?_
            refine ops_off rfl (guard_off rfl rfl rfl hg1575) rfl rfl ?_
            refine ops_off rfl (guard_off rfl rfl rfl hg1575) rfl rfl ?_
            refine ops_off rfl (guard_off rfl rfl rfl hg1575) rfl rfl ?_
            refine ops_off rfl (guard_off rfl rfl rfl hg1575) rfl rfl ?_
            have hg1576 : ((!t1566) || (!t1572)) = true := by simp only [hg1575, Bool.and_true, Bool.true_and, Bool.and_false, Bool.false_and, Bool.or_true, Bool.true_or, Bool.or_false, Bool.false_or, Bool.not_true, Bool.not_false, Bool.not_not]
            refine ops_ex (v := .bool ((!t1566) || (!t1572))) rfl (guard_none rfl) rfl rfl (ex_por_t rfl rfl hg1575) ?_
            refine ops_nil ?_
            exact at_meet [(0, p0), (3, .int .i64 a1493), (29, .bool ((!t1566) || (!t1572)))] ⟨rfl, HM⟩ (Sub.cons rfl (Sub.cons rfl (Sub.cons rfl Sub.nil)))
          · skip
            refine ops_ex rfl (guard_on rfl rfl rfl hg1575) rfl rfl (ex_move rfl rfl) ?_
            refine ops_ex rfl (guard_on rfl rfl rfl hg1575) rfl rfl (ex_move rfl rfl) ?_
            obtain ⟨kv1570, hc1569, hk1571⟩ : ∃ u, CellsAt _ (sb p0) (so p0 + (a1493).toNat * 8) [(.int .i64 ((gt x0 a1493).fRef.fTx)), (.int .i64 ((gt x0 a1493).fRef.fAt)), (.int .i64 ((gt x0 a1493).fOut.fValue)), u, (.int .i64 ((gt x0 a1493).fOut.fRule.fNeed)), (.int .i64 ((gt x0 a1493).fOut.fRule.fAfter)), (.int .i64 ((gt x0 a1493).fHeight)), (.bool ((gt x0 a1493).fMined))] ∧ RdS kInt _ u ((gt x0 a1493).fOut.fRule.fKeys) := rd_with1 hp0 (or_t e1568 (not_mk hg1575))
            refine ops_ex rfl (guard_on rfl rfl rfl hg1575) rfl rfl (ex_indexAddr (d := kCoin) rfl rfl rfl Tryz.underlying29 tsz77 hp0 (idx_lo (or_t e1568 (not_mk hg1575))) (idx_hi (or_t e1568 (not_mk hg1575)))) ?_
            refine ops_ex rfl (guard_on rfl rfl rfl hg1575) rfl rfl (ex_fieldAddr (off' := so p0 + (a1493).toNat * 8 + 6) rfl rfl Tryz.underlying77 rfl tsz2 rfl) ?_
            refine ops_ex rfl (guard_on rfl rfl rfl hg1575) rfl rfl (ex_load1 rfl rfl Tryz.underlying2 rfl ((HM.at_ hc1569) 6 _ rfl)) ?_
            refine ops_does rfl (guard_on rfl rfl rfl hg1575) rfl rfl (does_callk rfl callok71 rfl (spec_l2Height.calls (x0 := (gt x0 a1493).fHeight) (cond_t (not_mk hg1575) h1573))) ?_
            rintro _ w1577 ⟨rfl, hn⟩
            replace HM : Mem w [] w1577 [] := HM.call hn
            refine ops_ex rfl (guard_on rfl rfl rfl hg1575) rfl rfl (ex_not rfl rfl) ?_
            refine ops_ex (v := .bool ((!t1566) || (!t1572))) rfl (guard_none rfl) rfl rfl (ex_por_f rfl rfl hg1575 rfl) ?_
            refine ops_nil ?_
            exact at_meet [(0, p0), (3, .int .i64 a1493), (29, .bool ((!t1566) || (!t1572)))] ⟨rfl, HM⟩ (Sub.cons rfl (Sub.cons rfl (Sub.cons rfl Sub.nil)))
        · rintro _ w1578 ⟨rfl, HM⟩
          refine at_then ?_
          refine run_cond (b := ((!t1566) || (!t1572))) rfl (fun hb1579 => ?_) (fun hb1579 => ?_)
          · replace ho1440 := cond_t hb1579 ho1440
            refine run_seq ?_
            refine run_region rfl ?_
            refine ops_ex rfl (guard_none rfl) rfl rfl (ex_assign rfl rfl) ?_
            refine ops_nil ?_
            refine at_then ?_
            refine run_ret ?_
            refine at_then_ret ?_
            refine at_block_ret ?_
            refine at_then_ret ?_
            refine at_then_ret ?_
            refine at_block_ret ?_
            refine at_then_ret ?_
            have hR := Option.some.inj ho1440
            subst hR
            have hT := thn_inl H
            have hR := Option.some.inj hT
            subst hR
            exact at_ret1 rfl rfl ⟨_, rfl, rfl, HM⟩
          · replace ho1440 := cond_f hb1579 ho1440
            refine run_skip ?_
            refine at_then ?_
            refine run_seq ?_
            refine run_seq ?_
            obtain ⟨e1587, ho1440⟩ := chk_some ho1440
            obtain ⟨t1591, h1592, ho1440⟩ := bind_some ho1440
            refine run_region rfl ?_
            refine ops_ex rfl (guard_none rfl) rfl rfl (ex_move rfl rfl) ?_
            refine ops_ex rfl (guard_none rfl) rfl rfl (ex_move rfl rfl) ?_
            obtain ⟨kv1589, hc1588, hk1590⟩ : ∃ u, CellsAt _ (sb p0) (so p0 + (a1493).toNat * 8) [(.int .i64 ((gt x0 a1493).fRef.fTx)), (.int .i64 ((gt x0 a1493).fRef.fAt)), (.int .i64 ((gt x0 a1493).fOut.fValue)), u, (.int .i64 ((gt x0 a1493).fOut.fRule.fNeed)), (.int .i64 ((gt x0 a1493).fOut.fRule.fAfter)), (.int .i64 ((gt x0 a1493).fHeight)), (.bool ((gt x0 a1493).fMined))] ∧ RdS kInt _ u ((gt x0 a1493).fOut.fRule.fKeys) := rd_with1 hp0 e1587
            refine ops_ex rfl (guard_none rfl) rfl rfl (ex_indexAddr (d := kCoin) rfl rfl rfl Tryz.underlying29 tsz77 hp0 (idx_lo e1587) (idx_hi e1587)) ?_
            refine ops_ex rfl (guard_none rfl) rfl rfl (ex_fieldAddr (off' := so p0 + (a1493).toNat * 8 + 2) rfl rfl Tryz.underlying77 rfl tsz75 rfl) ?_
            refine ops_does rfl (guard_none rfl) rfl rfl (does_callk rfl callok72 rfl (spec_l4Out.calls (x0 := (gt x0 a1493).fOut) (CellsAt.sub (HM.at_ hc1588) 2 4 rfl) (HM.rd hk1590) h1592)) ?_
            rintro _ w1593 ⟨rfl, hn⟩
            replace HM : Mem w [] w1593 [] := HM.call hn
            refine ops_ex rfl (guard_none rfl) rfl rfl (ex_assign rfl rfl) ?_
            refine ops_nil ?_
            refine at_then ?_
            refine run_seq ?_
            refine run_region rfl ?_
            refine ops_ex rfl (guard_none rfl) rfl rfl (ex_move rfl rfl) ?_
            refine ops_ex rfl (guard_none rfl) rfl rfl (ex_neq rfl rfl rfl) ?_
            refine ops_nil ?_
            refine at_then ?_
            refine run_cond (b := (t1591 != 0)) rfl (fun hb1594 => ?_) (fun hb1594 => ?_)
            · replace ho1440 := cond_t hb1594 ho1440
              refine run_seq ?_
              refine run_region rfl ?_
              refine ops_ex rfl (guard_none rfl) rfl rfl (ex_move rfl rfl) ?_
              refine ops_ex rfl (guard_none rfl) rfl rfl (ex_assign rfl rfl) ?_
              refine ops_nil ?_
              refine at_then ?_
              refine run_ret ?_
              refine at_then_ret ?_
              refine at_block_ret ?_
              refine at_then_ret ?_
              refine at_then_ret ?_
              refine at_block_ret ?_
              refine at_then_ret ?_
              have hR := Option.some.inj ho1440
              subst hR
              have hT := thn_inl H
              have hR := Option.some.inj hT
              subst hR
              exact at_ret1 rfl rfl ⟨_, rfl, rfl, HM⟩
            · replace ho1440 := cond_f hb1594 ho1440
              refine run_skip ?_
              refine at_then ?_
              refine run_seq ?_
              obtain ⟨e1595, ho1440⟩ := chk_some ho1440
              obtain ⟨e1599, ho1440⟩ := chk_some ho1440
              obtain ⟨t1603, h1604, ho1440⟩ := bind_some ho1440
              refine run_meet (fun ρ_ w_ => ρ_ = [(0, p0), (3, .int .i64 a1493), (54, .bool ((decide (0 < a1493)) && (!t1603)))] ∧ Mem w [] w_ []) ?_ ?_
              · skip
                refine run_drawf (fun w_ => Mem w [] w_ []) [(0, true), (1, true), (2, true), (3, true), (4, true), (5, true), (6, true), (7, true), (8, true), (9, true), (10, true), (11, true), (12, true), (13, true), (14, false), (15, true), (16, true)] mixed rfl rfl (by kernel_rfl) ?_
                replace HM := HM.grow (fr_drew _)
                have hS := Mem.suf (M := []) HM
                refine drwp_take rfl (guard_none rfl) rfl rfl (fun w_ hS_ => (ex_move rfl rfl)) hS ?_
                refine drwp_take rfl (guard_none rfl) rfl rfl (fun w_ hS_ => (ex_gtr rfl rfl rfl)) hS ?_
                refine drwp_take rfl (guard_none rfl) rfl rfl (fun w_ hS_ => (ex_move rfl rfl)) hS ?_
                refine bool_cases (decide (0 < a1493)) (fun hg1605 => ?_) (fun hg1605 => ?_)
                · skip
                  refine drwp_take rfl (guard_on rfl rfl rfl hg1605) rfl rfl (fun w_ hS_ => (ex_move rfl rfl)) hS ?_
                  refine drwp_take rfl (guard_on rfl rfl rfl hg1605) rfl rfl (fun w_ hS_ => (ex_move rfl rfl)) hS ?_
                  refine drwp_take rfl (guard_on rfl rfl rfl hg1605) rfl rfl (fun w_ hS_ => (ex_sub rfl rfl rfl)) hS ?_
                  obtain ⟨kv1597, hc1596, hk1598⟩ : ∃ u, CellsAt _ (sb p0) (so p0 + (wrap64 (a1493 - 1)).toNat * 8) [(.int .i64 ((gt x0 (wrap64 (a1493 - 1))).fRef.fTx)), (.int .i64 ((gt x0 (wrap64 (a1493 - 1))).fRef.fAt)), (.int .i64 ((gt x0 (wrap64 (a1493 - 1))).fOut.fValue)), u, (.int .i64 ((gt x0 (wrap64 (a1493 - 1))).fOut.fRule.fNeed)), (.int .i64 ((gt x0 (wrap64 (a1493 - 1))).fOut.fRule.fAfter)), (.int .i64 ((gt x0 (wrap64 (a1493 - 1))).fHeight)), (.bool ((gt x0 (wrap64 (a1493 - 1))).fMined))] ∧ RdS kInt _ u ((gt x0 (wrap64 (a1493 - 1))).fOut.fRule.fKeys) := rd_with1 hp0 (or_t e1595 hg1605)
                  refine drwp_take rfl (guard_on rfl rfl rfl hg1605) rfl rfl (fun w_ hS_ => (ex_indexAddr (d := kCoin) rfl rfl rfl Tryz.underlying29 tsz77 hp0 (idx_lo (or_t e1595 hg1605)) (idx_hi (or_t e1595 hg1605)))) hS ?_
                  refine drwp_take rfl (guard_on rfl rfl rfl hg1605) rfl rfl (fun w_ hS_ => (ex_fieldAddr (off' := so p0 + (wrap64 (a1493 - 1)).toNat * 8) rfl rfl Tryz.underlying77 rfl tsz56 rfl)) hS ?_
                  refine drwp_take rfl (guard_on rfl rfl rfl hg1605) rfl rfl (fun w_ hS_ => (ex_loadN (cs := [(.int .i64 ((gt x0 (wrap64 (a1493 - 1))).fRef.fTx)), (.int .i64 ((gt x0 (wrap64 (a1493 - 1))).fRef.fAt))]) rfl rfl Tryz.underlying56 rfl tsz56 rfl ((hS_.at_ hc1596).sub 0 2 rfl))) hS ?_
                  refine drwp_take rfl (guard_on rfl rfl rfl hg1605) rfl rfl (fun w_ hS_ => (ex_move rfl rfl)) hS ?_
                  refine drwp_take rfl (guard_on rfl rfl rfl hg1605) rfl rfl (fun w_ hS_ => (ex_move rfl rfl)) hS ?_
                  obtain ⟨kv1601, hc1600, hk1602⟩ : ∃ u, CellsAt _ (sb p0) (so p0 + (a1493).toNat * 8) [(.int .i64 ((gt x0 a1493).fRef.fTx)), (.int .i64 ((gt x0 a1493).fRef.fAt)), (.int .i64 ((gt x0 a1493).fOut.fValue)), u, (.int .i64 ((gt x0 a1493).fOut.fRule.fNeed)), (.int .i64 ((gt x0 a1493).fOut.fRule.fAfter)), (.int .i64 ((gt x0 a1493).fHeight)), (.bool ((gt x0 a1493).fMined))] ∧ RdS kInt _ u ((gt x0 a1493).fOut.fRule.fKeys) := rd_with1 hp0 (or_t e1599 hg1605)
                  refine drwp_take rfl (guard_on rfl rfl rfl hg1605) rfl rfl (fun w_ hS_ => (ex_indexAddr (d := kCoin) rfl rfl rfl Tryz.underlying29 tsz77 hp0 (idx_lo (or_t e1599 hg1605)) (idx_hi (or_t e1599 hg1605)))) hS ?_
                  refine drwp_take rfl (guard_on rfl rfl rfl hg1605) rfl rfl (fun w_ hS_ => (ex_fieldAddr (off' := so p0 + (a1493).toNat * 8) rfl rfl Tryz.underlying77 rfl tsz56 rfl)) hS ?_
                  refine drwp_take rfl (guard_on rfl rfl rfl hg1605) rfl rfl (fun w_ hS_ => (ex_loadN (cs := [(.int .i64 ((gt x0 a1493).fRef.fTx)), (.int .i64 ((gt x0 a1493).fRef.fAt))]) rfl rfl Tryz.underlying56 rfl tsz56 rfl ((hS_.at_ hc1600).sub 0 2 rfl))) hS ?_
                  refine drwp_one rfl (guard_on rfl rfl rfl hg1605) rfl rfl (does_callk rfl callok73 rfl (spec_l4Ahead.calls (x0 := (gt x0 (wrap64 (a1493 - 1))).fRef) (x1 := (gt x0 a1493).fRef) (cond_t hg1605 h1604))) ?_
                  rintro _ w1606 ⟨rfl, hn⟩
                  replace HM : Mem w [] w1606 [] := HM.call hn
                  refine ⟨Mem.suf (M := []) HM, ?_⟩
                  have hS := Mem.suf (M := []) HM
                  refine drwp_take rfl (guard_on rfl rfl rfl hg1605) rfl rfl (fun w_ hS_ => (ex_not rfl rfl)) hS ?_
                  refine drwp_take (v := .bool ((decide (0 < a1493)) && (!t1603))) rfl (guard_none rfl) rfl rfl (fun w_ hS_ => (ex_pand_t rfl rfl hg1605 rfl)) hS ?_
                  refine drwp_done ?_
                  exact at_meet [(0, p0), (3, .int .i64 a1493), (54, .bool ((decide (0 < a1493)) && (!t1603)))] ⟨rfl, HM⟩ (Sub.cons rfl (Sub.cons rfl (Sub.cons rfl Sub.nil)))
                · skip
                  refine drwp_off rfl (guard_off rfl rfl rfl hg1605) rfl rfl hS ?_
                  refine drwp_off rfl (guard_off rfl rfl rfl hg1605) rfl rfl hS ?_
                  refine drwp_off rfl (guard_off rfl rfl rfl hg1605) rfl rfl hS ?_
                  refine drwp_off rfl (guard_off rfl rfl rfl hg1605) rfl rfl hS ?_
                  refine drwp_off rfl (guard_off rfl rfl rfl hg1605) rfl rfl hS ?_
                  refine drwp_off rfl (guard_off rfl rfl rfl hg1605) rfl rfl hS ?_
                  refine drwp_off rfl (guard_off rfl rfl rfl hg1605) rfl rfl hS ?_
                  refine drwp_off rfl (guard_off rfl rfl rfl hg1605) rfl rfl hS ?_
                  refine drwp_off rfl (guard_off rfl rfl rfl hg1605) rfl rfl hS ?_
                  refine drwp_off rfl (guard_off rfl rfl rfl hg1605) rfl rfl hS ?_
                  refine drwp_off rfl (guard_off rfl rfl rfl hg1605) rfl rfl hS ?_
                  refine drwp_off1 rfl (guard_off rfl rfl rfl hg1605) rfl rfl ⟨hS, ?_⟩
                  refine drwp_off rfl (guard_off rfl rfl rfl hg1605) rfl rfl hS ?_
                  have hg1607 : ((decide (0 < a1493)) && (!t1603)) = false := by simp only [hg1605, Bool.and_true, Bool.true_and, Bool.and_false, Bool.false_and, Bool.or_true, Bool.true_or, Bool.or_false, Bool.false_or, Bool.not_true, Bool.not_false, Bool.not_not]
                  refine drwp_take (v := .bool ((decide (0 < a1493)) && (!t1603))) rfl (guard_none rfl) rfl rfl (fun w_ hS_ => (ex_pand_f rfl rfl hg1605)) hS ?_
                  refine drwp_done ?_
                  exact at_meet [(0, p0), (3, .int .i64 a1493), (54, .bool ((decide (0 < a1493)) && (!t1603)))] ⟨rfl, HM⟩ (Sub.cons rfl (Sub.cons rfl (Sub.cons rfl Sub.nil)))
              · rintro _ w1608 ⟨rfl, HM⟩
                refine at_then ?_
                refine run_cond (b := ((decide (0 < a1493)) && (!t1603))) rfl (fun hb1609 => ?_) (fun hb1609 => ?_)
                · replace ho1440 := cond_t hb1609 ho1440
                  refine run_seq ?_
                  refine run_region rfl ?_
                  refine ops_ex rfl (guard_none rfl) rfl rfl (ex_assign rfl rfl) ?_
                  refine ops_nil ?_
                  refine at_then ?_
                  refine run_ret ?_
                  refine at_block_ret ?_
                  refine at_then_ret ?_
                  refine at_then_ret ?_
                  refine at_block_ret ?_
                  refine at_then_ret ?_
                  have hR := Option.some.inj ho1440
                  subst hR
                  have hT := thn_inl H
                  have hR := Option.some.inj hT
                  subst hR
                  exact at_ret1 rfl rfl ⟨_, rfl, rfl, HM⟩
                · replace ho1440 := cond_f hb1609 ho1440
                  refine run_skip ?_
                  refine at_block ?_
                  refine at_then ?_
                  refine run_region rfl ?_
                  refine ops_ex rfl (guard_none rfl) rfl rfl (ex_move rfl rfl) ?_
                  refine ops_ex rfl (guard_none rfl) rfl rfl (ex_add rfl rfl rfl) ?_
                  refine ops_ex rfl (guard_none rfl) rfl rfl (ex_assign rfl rfl) ?_
                  refine ops_nil ?_
                  exact at_again k1546 (ρ1 := [(0, p0), (3, .int .i64 (wrap64 (a1493 + 1)))]) (Nat.lt_succ_self _) ⟨_, ho1440, rfl, HM⟩ (Sub.cons rfl (Sub.cons rfl Sub.nil))
      · replace ho1440 := cond_f hb1548 ho1440
        refine run_exit ?_
        refine at_then_exit ?_
        refine at_then_exit ?_
        refine at_block_exit ?_
        exact at_mid (ρ' := []) ⟨(Option.some.inj ho1440), rfl, HM⟩ Sub.nil
    · rintro _ w1610 ⟨rfl, rfl, HM⟩
      replace H := (thn_inr H)
      refine run_seq ?_
      refine run_region rfl ?_
      refine ops_ex rfl (guard_none rfl) rfl rfl (ex_assign rfl rfl) ?_
      refine ops_nil ?_
      refine at_then ?_
      refine run_ret ?_
      have hR := Option.some.inj H
      subst hR
      exact at_ret1 rfl rfl ⟨_, rfl, rfl, HM⟩

def spec_l3Among.l0 (x0 : List Ref) (x1 : Ref) : Nat → Int → Option (Bool ⊕ Unit)
  | 0, _ => none
  | k + 1, a1697 => (bif (decide (a1697 < (x0.length : Int))) then (chk (idxOk a1697 x0.length) (bif ((((gt x0 a1697).fTx) == x1.fTx) && (((gt x0 a1697).fAt) == x1.fAt)) then some (.inl true) else spec_l3Among.l0 x0 x1 k (wrap64 (a1697 + 1)))) else some (.inr ()))
theorem spec_l3Among.l0_z (x0 : List Ref) (x1 : Ref) (a1697 : Int) : spec_l3Among.l0 x0 x1 0 a1697 = none := rfl
theorem spec_l3Among.l0_s (x0 : List Ref) (x1 : Ref) (k : Nat) (a1697 : Int) : spec_l3Among.l0 x0 x1 (k + 1) a1697 = (bif (decide (a1697 < (x0.length : Int))) then (chk (idxOk a1697 x0.length) (bif ((((gt x0 a1697).fTx) == x1.fTx) && (((gt x0 a1697).fAt) == x1.fAt)) then some (.inl true) else spec_l3Among.l0 x0 x1 k (wrap64 (a1697 + 1)))) else some (.inr ())) := rfl
def spec_l3Among.f (k : Nat) (x0 : List Ref) (x1 : Ref) : Option Bool := ((spec_l3Among.l0 x0 x1 k 0).bind fun o1691 => thn o1691 (fun r => some r) (fun _ => some false))
theorem spec_l3Among.calls {k : Nat} {x0 : List Ref} {x1 : Ref} {p0 : Value} {w : World} (hp0 : RdS kRef w p0 x0) {r : Bool} (H : spec_l3Among.f k x0 x1 = some r) :
    Calls Tryz.prog 75 ([p0, .agg #[(.int .i64 x1.fTx), (.int .i64 x1.fAt)]] : List Value).toArray w (fun e w_ => ∃ v, e = .returned v ∧ v = (.bool r) ∧ Mem w [] w_ []) := by
  have HM := Mem.start w
  refine calls_run (N := 18) Tryz.func75 rfl rfl rfl rfl ?_
  unfold spec_l3Among.f at H
  refine run_seq ?_
  refine run_region rfl ?_
  refine ops_does rfl (guard_none rfl) rfl rfl (does_box (cs := [.int .i64 x1.fTx, .int .i64 x1.fAt]) rfl rfl rfl HM) ?_
  rintro _ w1677 ⟨b1674, rfl, HM⟩
  refine ops_ex rfl (guard_none rfl) rfl rfl (ex_assign rfl rfl) ?_
  refine ops_nil ?_
  refine at_then ?_
  obtain ⟨o1691, ho1692, H⟩ := bind_some H
  refine run_mid (fun ρ_ w_ => Sum.inr () = o1691 ∧ ρ_ = [] ∧ Mem w [] w_ []) ?_ ?_
  · skip
    refine run_seq ?_
    refine run_region rfl ?_
    refine ops_ex rfl (guard_none rfl) rfl rfl (ex_assign rfl rfl) ?_
    refine ops_nil ?_
    refine at_then ?_
    refine run_block ?_
    refine run_loop (fun k_ ρ_ w_ => ∃ a1697 : Int, spec_l3Among.l0 x0 x1 k_ a1697 = some o1691 ∧ ρ_ = [(0, p0), (3, .pointer (some ⟨b1674, 0, none⟩)), (5, .int .i64 a1697)] ∧ Mem w [] w_ [box b1674 56 [.int .i64 x1.fTx, .int .i64 x1.fAt]]) k (ρ1 := [(0, p0), (3, .pointer (some ⟨b1674, 0, none⟩)), (5, .int .i64 0)]) ⟨_, ho1692, rfl, HM⟩ (Sub.cons rfl (Sub.cons rfl (Sub.cons rfl Sub.nil))) ?_
    clear HM ho1692
    rintro k1702 _ w1703 ⟨a1697, ho1692, rfl, HM⟩
    obtain _ | k1702 := k1702
    · exact nomatch ((spec_l3Among.l0_z x0 x1 a1697).symm.trans ho1692)
    replace ho1692 := (spec_l3Among.l0_s x0 x1 k1702 a1697).symm.trans ho1692
    refine run_seq ?_
    refine run_seq ?_
    refine run_region rfl ?_
    refine ops_ex rfl (guard_none rfl) rfl rfl (ex_move rfl rfl) ?_
    refine ops_ex rfl (guard_none rfl) rfl rfl (ex_move rfl rfl) ?_
    refine ops_ex rfl (guard_none rfl) rfl rfl (ex_len (d := kRef) (xs := x0) rfl rfl Tryz.underlying34 hp0) ?_
    refine ops_ex rfl (guard_none rfl) rfl rfl (ex_lss rfl rfl rfl) ?_
    refine ops_nil ?_
    refine at_then ?_
    refine run_cond (b := (decide (a1697 < (x0.length : Int)))) rfl (fun hb1704 => ?_) (fun hb1704 => ?_)
    · replace ho1692 := cond_t hb1704 ho1692
      refine run_skip ?_
      refine at_then ?_
      refine run_seq ?_
      refine run_block ?_
      refine run_seq ?_
      obtain ⟨e1705, ho1692⟩ := chk_some ho1692
      refine run_drawf (fun w_ => Mem w [] w_ [box b1674 56 [.int .i64 x1.fTx, .int .i64 x1.fAt]]) [(0, true), (1, true), (2, true), (3, true), (4, true), (5, true)] mixed rfl rfl (by kernel_rfl) ?_
      replace HM := HM.grow (fr_drew _)
      have hS := Mem.suf (M := []) HM
      refine drwp_take rfl (guard_none rfl) rfl rfl (fun w_ hS_ => (ex_move rfl rfl)) hS ?_
      refine drwp_take rfl (guard_none rfl) rfl rfl (fun w_ hS_ => (ex_move rfl rfl)) hS ?_
      have hc1706 : CellsAt _ (sb p0) (so p0 + (a1697).toNat * 2) [(.int .i64 ((gt x0 a1697).fTx)), (.int .i64 ((gt x0 a1697).fAt))] := rd_plain hp0 e1705
      refine drwp_take rfl (guard_none rfl) rfl rfl (fun w_ hS_ => (ex_indexAddr (d := kRef) rfl rfl rfl Tryz.underlying34 tsz56 hp0 (idx_lo e1705) (idx_hi e1705))) hS ?_
      refine drwp_take rfl (guard_none rfl) rfl rfl (fun w_ hS_ => (ex_loadN (cs := [(.int .i64 ((gt x0 a1697).fTx)), (.int .i64 ((gt x0 a1697).fAt))]) rfl rfl Tryz.underlying56 rfl tsz56 rfl ((hS_.at_ hc1706).sub 0 2 rfl))) hS ?_
      refine drwp_take rfl (guard_none rfl) rfl rfl (fun w_ hS_ => (ex_loadN (cs := [(.int .i64 x1.fTx), (.int .i64 x1.fAt)]) rfl rfl Tryz.underlying56 rfl tsz56 rfl ((hS_.box_at 0 rfl).sub 0 2 rfl))) hS ?_
      refine drwp_take rfl (guard_none rfl) rfl rfl (fun w_ hS_ => (ex_aeql rfl rfl rfl (by kernel_rfl) (eqs56 _ _ _ _ _))) hS ?_
      refine drwp_done ?_
      refine at_then ?_
      refine run_cond (b := ((((gt x0 a1697).fTx) == x1.fTx) && (((gt x0 a1697).fAt) == x1.fAt))) rfl (fun hb1707 => ?_) (fun hb1707 => ?_)
      · replace ho1692 := cond_t hb1707 ho1692
        refine run_seq ?_
        refine run_region rfl ?_
        refine ops_ex rfl (guard_none rfl) rfl rfl (ex_assign rfl rfl) ?_
        refine ops_nil ?_
        refine at_then ?_
        refine run_ret ?_
        refine at_block_ret ?_
        refine at_then_ret ?_
        refine at_then_ret ?_
        refine at_block_ret ?_
        refine at_then_ret ?_
        replace HM := (HM.front 0 rfl rfl).drop
        have hR := Option.some.inj ho1692
        subst hR
        have hT := thn_inl H
        have hR := Option.some.inj hT
        subst hR
        exact at_ret1 rfl rfl ⟨_, rfl, rfl, HM⟩
      · replace ho1692 := cond_f hb1707 ho1692
        refine run_skip ?_
        refine at_block ?_
        refine at_then ?_
        refine run_region rfl ?_
        refine ops_ex rfl (guard_none rfl) rfl rfl (ex_move rfl rfl) ?_
        refine ops_ex rfl (guard_none rfl) rfl rfl (ex_add rfl rfl rfl) ?_
        refine ops_ex rfl (guard_none rfl) rfl rfl (ex_assign rfl rfl) ?_
        refine ops_nil ?_
        exact at_again k1702 (ρ1 := [(0, p0), (3, .pointer (some ⟨b1674, 0, none⟩)), (5, .int .i64 (wrap64 (a1697 + 1)))]) (Nat.lt_succ_self _) ⟨_, ho1692, rfl, HM⟩ (Sub.cons rfl (Sub.cons rfl (Sub.cons rfl Sub.nil)))
    · replace ho1692 := cond_f hb1704 ho1692
      refine run_exit ?_
      refine at_then_exit ?_
      refine at_then_exit ?_
      refine at_block_exit ?_
      replace HM := (HM.front 0 rfl rfl).drop
      exact at_mid (ρ' := []) ⟨(Option.some.inj ho1692), rfl, HM⟩ Sub.nil
  · rintro _ w1708 ⟨rfl, rfl, HM⟩
    replace H := (thn_inr H)
    refine run_seq ?_
    refine run_region rfl ?_
    refine ops_ex rfl (guard_none rfl) rfl rfl (ex_assign rfl rfl) ?_
    refine ops_nil ?_
    refine at_then ?_
    refine run_ret ?_
    have hR := Option.some.inj H
    subst hR
    exact at_ret1 rfl rfl ⟨_, rfl, rfl, HM⟩

def spec_l3Outs.l0 (x0 : Tx) : Nat → Int → Option (Int ⊕ Unit)
  | 0, _ => none
  | k + 1, a1920 => (bif (decide (a1920 < (x0.fOuts.length : Int))) then (chk (idxOk a1920 x0.fOuts.length) ((spec_l1In.f k ((gt x0.fOuts a1920).fValue) 1 1000000).bind fun t1957 => (bif !t1957 then some (.inl 3) else (chk (idxOk a1920 x0.fOuts.length) ((spec_l2Fault.f k ((gt x0.fOuts a1920).fRule)).bind fun t1965 => (bif (t1965 != 0) then some (.inl t1965) else spec_l3Outs.l0 x0 k (wrap64 (a1920 + 1)))))))) else some (.inr ()))
theorem spec_l3Outs.l0_z (x0 : Tx) (a1920 : Int) : spec_l3Outs.l0 x0 0 a1920 = none := rfl
theorem spec_l3Outs.l0_s (x0 : Tx) (k : Nat) (a1920 : Int) : spec_l3Outs.l0 x0 (k + 1) a1920 = (bif (decide (a1920 < (x0.fOuts.length : Int))) then (chk (idxOk a1920 x0.fOuts.length) ((spec_l1In.f k ((gt x0.fOuts a1920).fValue) 1 1000000).bind fun t1957 => (bif !t1957 then some (.inl 3) else (chk (idxOk a1920 x0.fOuts.length) ((spec_l2Fault.f k ((gt x0.fOuts a1920).fRule)).bind fun t1965 => (bif (t1965 != 0) then some (.inl t1965) else spec_l3Outs.l0 x0 k (wrap64 (a1920 + 1)))))))) else some (.inr ())) := rfl
def spec_l3Outs.f (k : Nat) (x0 : Tx) : Option Int := ((spec_l3Outs.l0 x0 k 0).bind fun o1896 => thn o1896 (fun r => some r) (fun _ => (chk (!(x0.fKind == 1) || (idxOk (0 : Int) x0.fOuts.length)) (bif ((x0.fKind == 1) && (decide (((gt x0.fOuts (0 : Int)).fValue) < 100))) then some 8 else some 0))))
theorem spec_l3Outs.calls {k : Nat} {x0 : Tx} {b0 f0 : Nat} {p0_0 : Value} {p0_1 : Value} {w : World} (hc0 : CellsAt w b0 f0 [.int .i64 x0.fKind, .int .i64 x0.fMember, p0_0, p0_1]) (hp0_0 : RdS kRef w p0_0 x0.fIns) (hp0_1 : RdS kOut w p0_1 x0.fOuts) {r : Int} (H : spec_l3Outs.f k x0 = some r) :
    Calls Tryz.prog 76 ([.pointer (some ⟨b0, f0, none⟩)] : List Value).toArray w (fun e w_ => ∃ v, e = .returned v ∧ v = (.int .i64 r) ∧ Mem w [] w_ []) := by
  have HM := Mem.start w
  refine calls_run (N := 50) Tryz.func76 rfl rfl rfl rfl ?_
  unfold spec_l3Outs.f at H
  refine run_seq ?_
  refine run_region rfl ?_
  refine ops_ex rfl (guard_none rfl) rfl rfl (ex_assign rfl rfl) ?_
  refine ops_nil ?_
  refine at_then ?_
  obtain ⟨o1896, ho1897, H⟩ := bind_some H
  refine run_mid (fun ρ_ w_ => Sum.inr () = o1896 ∧ ρ_ = [(0, .pointer (some ⟨b0, f0, none⟩))] ∧ Mem w [] w_ []) ?_ ?_
  · skip
    refine run_seq ?_
    refine run_region rfl ?_
    refine ops_ex rfl (guard_none rfl) rfl rfl (ex_assign rfl rfl) ?_
    refine ops_nil ?_
    refine at_then ?_
    refine run_block ?_
    refine run_loop (fun k_ ρ_ w_ => ∃ a1920 : Int, spec_l3Outs.l0 x0 k_ a1920 = some o1896 ∧ ρ_ = [(0, .pointer (some ⟨b0, f0, none⟩)), (3, .int .i64 a1920)] ∧ Mem w [] w_ []) k (ρ1 := [(0, .pointer (some ⟨b0, f0, none⟩)), (3, .int .i64 0)]) ⟨_, ho1897, rfl, HM⟩ (Sub.cons rfl (Sub.cons rfl Sub.nil)) ?_
    clear HM ho1897
    rintro k1943 _ w1944 ⟨a1920, ho1897, rfl, HM⟩
    obtain _ | k1943 := k1943
    · exact nomatch ((spec_l3Outs.l0_z x0 a1920).symm.trans ho1897)
    replace ho1897 := (spec_l3Outs.l0_s x0 k1943 a1920).symm.trans ho1897
    refine run_seq ?_
    refine run_seq ?_
    refine run_region rfl ?_
    refine ops_ex rfl (guard_none rfl) rfl rfl (ex_move rfl rfl) ?_
    refine ops_ex rfl (guard_none rfl) rfl rfl (ex_move rfl rfl) ?_
    refine ops_ex rfl (guard_none rfl) rfl rfl (ex_nilCheck rfl rfl) ?_
    refine ops_ex rfl (guard_none rfl) rfl rfl (ex_fieldAddr (off' := f0 + 3) rfl rfl Tryz.underlying37 rfl tsz35 rfl) ?_
    refine ops_ex rfl (guard_none rfl) rfl rfl (ex_load1 rfl rfl Tryz.underlying35 rfl ((HM.at_ hc0) 3 _ rfl)) ?_
    refine ops_ex rfl (guard_none rfl) rfl rfl (ex_len (d := kOut) (xs := x0.fOuts) rfl rfl Tryz.underlying35 hp0_1) ?_
    refine ops_ex rfl (guard_none rfl) rfl rfl (ex_lss rfl rfl rfl) ?_
    refine ops_nil ?_
    refine at_then ?_
    refine run_cond (b := (decide (a1920 < (x0.fOuts.length : Int)))) rfl (fun hb1945 => ?_) (fun hb1945 => ?_)
    · replace ho1897 := cond_t hb1945 ho1897
      refine run_skip ?_
      refine at_then ?_
      refine run_seq ?_
      refine run_block ?_
      refine run_seq ?_
      refine run_seq ?_
      obtain ⟨e1953, ho1897⟩ := chk_some ho1897
      obtain ⟨t1957, h1958, ho1897⟩ := bind_some ho1897
      refine run_region rfl ?_
      refine ops_ex rfl (guard_none rfl) rfl rfl (ex_move rfl rfl) ?_
      refine ops_ex rfl (guard_none rfl) rfl rfl (ex_nilCheck rfl rfl) ?_
      refine ops_ex rfl (guard_none rfl) rfl rfl (ex_fieldAddr (off' := f0 + 3) rfl rfl Tryz.underlying37 rfl tsz35 rfl) ?_
      refine ops_ex rfl (guard_none rfl) rfl rfl (ex_load1 rfl rfl Tryz.underlying35 rfl ((HM.at_ hc0) 3 _ rfl)) ?_
      refine ops_ex rfl (guard_none rfl) rfl rfl (ex_move rfl rfl) ?_
      obtain ⟨kv1955, hc1954, hk1956⟩ : ∃ u, CellsAt _ (sb p0_1) (so p0_1 + (a1920).toNat * 4) [(.int .i64 ((gt x0.fOuts a1920).fValue)), u, (.int .i64 ((gt x0.fOuts a1920).fRule.fNeed)), (.int .i64 ((gt x0.fOuts a1920).fRule.fAfter))] ∧ RdS kInt _ u ((gt x0.fOuts a1920).fRule.fKeys) := rd_with1 hp0_1 e1953
      refine ops_ex rfl (guard_none rfl) rfl rfl (ex_indexAddr (d := kOut) rfl rfl rfl Tryz.underlying35 tsz75 hp0_1 (idx_lo e1953) (idx_hi e1953)) ?_
      refine ops_ex rfl (guard_none rfl) rfl rfl (ex_fieldAddr (off' := so p0_1 + (a1920).toNat * 4) rfl rfl Tryz.underlying75 rfl tsz2 rfl) ?_
      refine ops_ex rfl (guard_none rfl) rfl rfl (ex_load1 rfl rfl Tryz.underlying2 rfl ((HM.at_ hc1954) 0 _ rfl)) ?_
      refine ops_does rfl (guard_none rfl) rfl rfl (does_callk rfl callok47 rfl (spec_l1In.calls (x0 := (gt x0.fOuts a1920).fValue) (x1 := 1) (x2 := 1000000) h1958)) ?_
      rintro _ w1959 ⟨rfl, hn⟩
      replace HM : Mem w [] w1959 [] := HM.call hn
      refine ops_ex rfl (guard_none rfl) rfl rfl (ex_not rfl rfl) ?_
      refine ops_nil ?_
      refine at_then ?_
      refine run_cond (b := !t1957) rfl (fun hb1960 => ?_) (fun hb1960 => ?_)
      · replace ho1897 := cond_t hb1960 ho1897
        refine run_seq ?_
        refine run_region rfl ?_
        refine ops_ex rfl (guard_none rfl) rfl rfl (ex_assign rfl rfl) ?_
        refine ops_nil ?_
        refine at_then ?_
        refine run_ret ?_
        refine at_then_ret ?_
        refine at_block_ret ?_
        refine at_then_ret ?_
        refine at_then_ret ?_
        refine at_block_ret ?_
        refine at_then_ret ?_
        have hR := Option.some.inj ho1897
        subst hR
        have hT := thn_inl H
        have hR := Option.some.inj hT
        subst hR
        exact at_ret1 rfl rfl ⟨_, rfl, rfl, HM⟩
      · replace ho1897 := cond_f hb1960 ho1897
        refine run_skip ?_
        refine at_then ?_
        refine run_seq ?_
        obtain ⟨e1961, ho1897⟩ := chk_some ho1897
        obtain ⟨t1965, h1966, ho1897⟩ := bind_some ho1897
        refine run_region rfl ?_
        refine ops_ex rfl (guard_none rfl) rfl rfl (ex_move rfl rfl) ?_
        refine ops_ex rfl (guard_none rfl) rfl rfl (ex_nilCheck rfl rfl) ?_
        refine ops_ex rfl (guard_none rfl) rfl rfl (ex_fieldAddr (off' := f0 + 3) rfl rfl Tryz.underlying37 rfl tsz35 rfl) ?_
        refine ops_ex rfl (guard_none rfl) rfl rfl (ex_load1 rfl rfl Tryz.underlying35 rfl ((HM.at_ hc0) 3 _ rfl)) ?_
        refine ops_ex rfl (guard_none rfl) rfl rfl (ex_move rfl rfl) ?_
        obtain ⟨kv1963, hc1962, hk1964⟩ : ∃ u, CellsAt _ (sb p0_1) (so p0_1 + (a1920).toNat * 4) [(.int .i64 ((gt x0.fOuts a1920).fValue)), u, (.int .i64 ((gt x0.fOuts a1920).fRule.fNeed)), (.int .i64 ((gt x0.fOuts a1920).fRule.fAfter))] ∧ RdS kInt _ u ((gt x0.fOuts a1920).fRule.fKeys) := rd_with1 hp0_1 e1961
        refine ops_ex rfl (guard_none rfl) rfl rfl (ex_indexAddr (d := kOut) rfl rfl rfl Tryz.underlying35 tsz75 hp0_1 (idx_lo e1961) (idx_hi e1961)) ?_
        refine ops_ex rfl (guard_none rfl) rfl rfl (ex_fieldAddr (off' := so p0_1 + (a1920).toNat * 4 + 1) rfl rfl Tryz.underlying75 rfl tsz73 rfl) ?_
        refine ops_does rfl (guard_none rfl) rfl rfl (does_callk rfl callok114 rfl (spec_l2Fault.calls (x0 := (gt x0.fOuts a1920).fRule) (CellsAt.sub (HM.at_ hc1962) 1 3 rfl) (HM.rd hk1964) h1966)) ?_
        rintro _ w1967 ⟨rfl, hn⟩
        replace HM : Mem w [] w1967 [] := HM.call hn
        refine ops_ex rfl (guard_none rfl) rfl rfl (ex_assign rfl rfl) ?_
        refine ops_nil ?_
        refine at_then ?_
        refine run_seq ?_
        refine run_region rfl ?_
        refine ops_ex rfl (guard_none rfl) rfl rfl (ex_move rfl rfl) ?_
        refine ops_ex rfl (guard_none rfl) rfl rfl (ex_neq rfl rfl rfl) ?_
        refine ops_nil ?_
        refine at_then ?_
        refine run_cond (b := (t1965 != 0)) rfl (fun hb1968 => ?_) (fun hb1968 => ?_)
        · replace ho1897 := cond_t hb1968 ho1897
          refine run_seq ?_
          refine run_region rfl ?_
          refine ops_ex rfl (guard_none rfl) rfl rfl (ex_move rfl rfl) ?_
          refine ops_ex rfl (guard_none rfl) rfl rfl (ex_assign rfl rfl) ?_
          refine ops_nil ?_
          refine at_then ?_
          refine run_ret ?_
          refine at_block_ret ?_
          refine at_then_ret ?_
          refine at_then_ret ?_
          refine at_block_ret ?_
          refine at_then_ret ?_
          have hR := Option.some.inj ho1897
          subst hR
          have hT := thn_inl H
          have hR := Option.some.inj hT
          subst hR
          exact at_ret1 rfl rfl ⟨_, rfl, rfl, HM⟩
        · replace ho1897 := cond_f hb1968 ho1897
          refine run_skip ?_
          refine at_block ?_
          refine at_then ?_
          refine run_region rfl ?_
          refine ops_ex rfl (guard_none rfl) rfl rfl (ex_move rfl rfl) ?_
          refine ops_ex rfl (guard_none rfl) rfl rfl (ex_add rfl rfl rfl) ?_
          refine ops_ex rfl (guard_none rfl) rfl rfl (ex_assign rfl rfl) ?_
          refine ops_nil ?_
          exact at_again k1943 (ρ1 := [(0, .pointer (some ⟨b0, f0, none⟩)), (3, .int .i64 (wrap64 (a1920 + 1)))]) (Nat.lt_succ_self _) ⟨_, ho1897, rfl, HM⟩ (Sub.cons rfl (Sub.cons rfl Sub.nil))
    · replace ho1897 := cond_f hb1945 ho1897
      refine run_exit ?_
      refine at_then_exit ?_
      refine at_then_exit ?_
      refine at_block_exit ?_
      exact at_mid (ρ' := [(0, .pointer (some ⟨b0, f0, none⟩))]) ⟨(Option.some.inj ho1897), rfl, HM⟩ (Sub.cons rfl Sub.nil)
  · rintro _ w1969 ⟨rfl, rfl, HM⟩
    replace H := (thn_inr H)
    refine run_seq ?_
    refine run_seq ?_
    obtain ⟨e1970, H⟩ := chk_some H
    refine run_meet (fun ρ_ w_ => ρ_ = [(49, .bool ((x0.fKind == 1) && (decide (((gt x0.fOuts (0 : Int)).fValue) < 100))))] ∧ Mem w [] w_ []) ?_ ?_
    · skip
      refine run_region rfl ?_
      refine ops_ex rfl (guard_none rfl) rfl rfl (ex_move rfl rfl) ?_
      refine ops_ex rfl (guard_none rfl) rfl rfl (ex_nilCheck rfl rfl) ?_
      refine ops_ex rfl (guard_none rfl) rfl rfl (ex_fieldAddr (off' := f0) rfl rfl Tryz.underlying37 rfl tsz2 rfl) ?_
      refine ops_ex rfl (guard_none rfl) rfl rfl (ex_load1 rfl rfl Tryz.underlying2 rfl ((HM.at_ hc0) 0 _ rfl)) ?_
      refine ops_ex rfl (guard_none rfl) rfl rfl (ex_eql rfl rfl rfl) ?_
      refine ops_ex rfl (guard_none rfl) rfl rfl (ex_move rfl rfl) ?_
      refine bool_cases (x0.fKind == 1) (fun hg1974 => ?_) (fun hg1974 => ?_)
      · skip
        refine ops_ex rfl (guard_on rfl rfl rfl hg1974) rfl rfl (ex_move rfl rfl) ?_
        refine ops_ex rfl (guard_on rfl rfl rfl hg1974) rfl rfl (ex_nilCheck rfl rfl) ?_
        refine ops_ex rfl (guard_on rfl rfl rfl hg1974) rfl rfl (ex_fieldAddr (off' := f0 + 3) rfl rfl Tryz.underlying37 rfl tsz35 rfl) ?_
        refine ops_ex rfl (guard_on rfl rfl rfl hg1974) rfl rfl (ex_load1 rfl rfl Tryz.underlying35 rfl ((HM.at_ hc0) 3 _ rfl)) ?_
        obtain ⟨kv1972, hc1971, hk1973⟩ : ∃ u, CellsAt _ (sb p0_1) (so p0_1 + ((0 : Int)).toNat * 4) [(.int .i64 ((gt x0.fOuts (0 : Int)).fValue)), u, (.int .i64 ((gt x0.fOuts (0 : Int)).fRule.fNeed)), (.int .i64 ((gt x0.fOuts (0 : Int)).fRule.fAfter))] ∧ RdS kInt _ u ((gt x0.fOuts (0 : Int)).fRule.fKeys) := rd_with1 hp0_1 (or_t e1970 hg1974)
        refine ops_ex rfl (guard_on rfl rfl rfl hg1974) rfl rfl (ex_indexAddr (d := kOut) rfl rfl rfl Tryz.underlying35 tsz75 hp0_1 (idx_lo (or_t e1970 hg1974)) (idx_hi (or_t e1970 hg1974))) ?_
        refine ops_ex rfl (guard_on rfl rfl rfl hg1974) rfl rfl (ex_fieldAddr (off' := so p0_1 + ((0 : Int)).toNat * 4) rfl rfl Tryz.underlying75 rfl tsz2 rfl) ?_
        refine ops_ex rfl (guard_on rfl rfl rfl hg1974) rfl rfl (ex_load1 rfl rfl Tryz.underlying2 rfl ((HM.at_ hc1971) 0 _ rfl)) ?_
        refine ops_ex rfl (guard_on rfl rfl rfl hg1974) rfl rfl (ex_lss rfl rfl rfl) ?_
        refine ops_ex (v := .bool ((x0.fKind == 1) && (decide (((gt x0.fOuts (0 : Int)).fValue) < 100)))) rfl (guard_none rfl) rfl rfl (ex_pand_t rfl rfl hg1974 rfl) ?_
        refine ops_nil ?_
        exact at_meet [(49, .bool ((x0.fKind == 1) && (decide (((gt x0.fOuts (0 : Int)).fValue) < 100))))] ⟨rfl, HM⟩ (Sub.cons rfl Sub.nil)
      · skip
        refine ops_off rfl (guard_off rfl rfl rfl hg1974) rfl rfl ?_
        refine ops_off rfl (guard_off rfl rfl rfl hg1974) rfl rfl ?_
        refine ops_off rfl (guard_off rfl rfl rfl hg1974) rfl rfl ?_
        refine ops_off rfl (guard_off rfl rfl rfl hg1974) rfl rfl ?_
        refine ops_off rfl (guard_off rfl rfl rfl hg1974) rfl rfl ?_
        refine ops_off rfl (guard_off rfl rfl rfl hg1974) rfl rfl ?_
        refine ops_off rfl (guard_off rfl rfl rfl hg1974) rfl rfl ?_
        refine ops_off rfl (guard_off rfl rfl rfl hg1974) rfl rfl ?_
        have hg1975 : ((x0.fKind == 1) && (decide (((gt x0.fOuts (0 : Int)).fValue) < 100))) = false := by simp only [hg1974, Bool.and_true, Bool.true_and, Bool.and_false, Bool.false_and, Bool.or_true, Bool.true_or, Bool.or_false, Bool.false_or, Bool.not_true, Bool.not_false, Bool.not_not]
        refine ops_ex (v := .bool ((x0.fKind == 1) && (decide (((gt x0.fOuts (0 : Int)).fValue) < 100)))) rfl (guard_none rfl) rfl rfl (ex_pand_f rfl rfl hg1974) ?_
        refine ops_nil ?_
        exact at_meet [(49, .bool ((x0.fKind == 1) && (decide (((gt x0.fOuts (0 : Int)).fValue) < 100))))] ⟨rfl, HM⟩ (Sub.cons rfl Sub.nil)
    · rintro _ w1976 ⟨rfl, HM⟩
      refine at_then ?_
      refine run_cond (b := ((x0.fKind == 1) && (decide (((gt x0.fOuts (0 : Int)).fValue) < 100)))) rfl (fun hb1977 => ?_) (fun hb1977 => ?_)
      · replace H := cond_t hb1977 H
        refine run_seq ?_
        refine run_region rfl ?_
        refine ops_ex rfl (guard_none rfl) rfl rfl (ex_assign rfl rfl) ?_
        refine ops_nil ?_
        refine at_then ?_
        refine run_ret ?_
        refine at_then_ret ?_
        have hR := Option.some.inj H
        subst hR
        exact at_ret1 rfl rfl ⟨_, rfl, rfl, HM⟩
      · replace H := cond_f hb1977 H
        refine run_skip ?_
        refine at_then ?_
        refine run_seq ?_
        refine run_region rfl ?_
        refine ops_ex rfl (guard_none rfl) rfl rfl (ex_assign rfl rfl) ?_
        refine ops_nil ?_
        refine at_then ?_
        refine run_ret ?_
        have hR := Option.some.inj H
        subst hR
        exact at_ret1 rfl rfl ⟨_, rfl, rfl, HM⟩

def spec_l3Fault.l0 (x0 : Tx) : Nat → Int → Option (Int ⊕ Unit)
  | 0, _ => none
  | k + 1, a2098 => (bif (decide (a2098 < (x0.fIns.length : Int))) then (chk (idxOk a2098 x0.fIns.length) ((spec_l3Ref.f k (gt x0.fIns a2098)).bind fun t2129 => (bif !t2129 then some (.inl 3) else (chk (cutOk a2098 x0.fIns.length) (chk (idxOk a2098 x0.fIns.length) ((spec_l3Among.f k (x0.fIns.take (a2098).toNat) (gt x0.fIns a2098)).bind fun t2139 => (bif t2139 then some (.inl 7) else spec_l3Fault.l0 x0 k (wrap64 (a2098 + 1))))))))) else some (.inr ()))
theorem spec_l3Fault.l0_z (x0 : Tx) (a2098 : Int) : spec_l3Fault.l0 x0 0 a2098 = none := rfl
theorem spec_l3Fault.l0_s (x0 : Tx) (k : Nat) (a2098 : Int) : spec_l3Fault.l0 x0 (k + 1) a2098 = (bif (decide (a2098 < (x0.fIns.length : Int))) then (chk (idxOk a2098 x0.fIns.length) ((spec_l3Ref.f k (gt x0.fIns a2098)).bind fun t2129 => (bif !t2129 then some (.inl 3) else (chk (cutOk a2098 x0.fIns.length) (chk (idxOk a2098 x0.fIns.length) ((spec_l3Among.f k (x0.fIns.take (a2098).toNat) (gt x0.fIns a2098)).bind fun t2139 => (bif t2139 then some (.inl 7) else spec_l3Fault.l0 x0 k (wrap64 (a2098 + 1))))))))) else some (.inr ())) := rfl
def spec_l3Fault.f (k : Nat) (x0 : Tx) : Option Int := ((spec_l1In.f k x0.fKind 0 2).bind fun t1983 => (bif ((!t1983) || ((x0.fKind == 0) != (x0.fMember == 0))) then some 1 else ((bif (x0.fKind != 0) then spec_l1Key.f k x0.fMember else some default).bind fun t1993 => (bif ((x0.fKind != 0) && (!t1993)) then some 3 else ((spec_l1In.f k (x0.fIns.length : Int) 1 4).bind fun t2005 => ((bif (!(!t2005)) then spec_l1In.f k (x0.fOuts.length : Int) 1 4 else some default).bind fun t2007 => (bif ((!t2005) || (!t2007)) then some 2 else ((spec_l3Fault.l0 x0 k 0).bind fun o2076 => thn o2076 (fun r => some r) (fun _ => ((spec_l3Outs.f k x0).bind fun t2144 => some t2144))))))))))
theorem spec_l3Fault.calls {k : Nat} {x0 : Tx} {b0 f0 : Nat} {p0_0 : Value} {p0_1 : Value} {w : World} (hc0 : CellsAt w b0 f0 [.int .i64 x0.fKind, .int .i64 x0.fMember, p0_0, p0_1]) (hp0_0 : RdS kRef w p0_0 x0.fIns) (hp0_1 : RdS kOut w p0_1 x0.fOuts) {r : Int} (H : spec_l3Fault.f k x0 = some r) :
    Calls Tryz.prog 33 ([.pointer (some ⟨b0, f0, none⟩)] : List Value).toArray w (fun e w_ => ∃ v, e = .returned v ∧ v = (.int .i64 r) ∧ Mem w [] w_ []) := by
  have HM := Mem.start w
  refine calls_run (N := 86) Tryz.func33 rfl rfl rfl rfl ?_
  unfold spec_l3Fault.f at H
  refine run_seq ?_
  refine run_region rfl ?_
  refine ops_ex rfl (guard_none rfl) rfl rfl (ex_assign rfl rfl) ?_
  refine ops_nil ?_
  refine at_then ?_
  refine run_seq ?_
  refine run_seq ?_
  obtain ⟨t1983, h1984, H⟩ := bind_some H
  refine run_meet (fun ρ_ w_ => ρ_ = [(0, .pointer (some ⟨b0, f0, none⟩)), (22, .bool ((!t1983) || ((x0.fKind == 0) != (x0.fMember == 0))))] ∧ Mem w [] w_ []) ?_ ?_
  · skip
    refine run_drawf (fun w_ => Mem w [] w_ []) [(0, true), (1, true), (2, true), (3, true), (4, false), (5, true), (6, true), (7, true), (8, true), (9, true), (10, true), (11, true), (12, true), (13, true), (14, true), (15, true), (16, true), (17, true), (18, true)] mixed rfl rfl (by kernel_rfl) ?_
    replace HM := HM.grow (fr_drew _)
    have hS := Mem.suf (M := []) HM
    refine drwp_take rfl (guard_none rfl) rfl rfl (fun w_ hS_ => (ex_move rfl rfl)) hS ?_
    refine drwp_take rfl (guard_none rfl) rfl rfl (fun w_ hS_ => (ex_nilCheck rfl rfl)) hS ?_
    refine drwp_take rfl (guard_none rfl) rfl rfl (fun w_ hS_ => (ex_fieldAddr (off' := f0) rfl rfl Tryz.underlying37 rfl tsz2 rfl)) hS ?_
    refine drwp_take rfl (guard_none rfl) rfl rfl (fun w_ hS_ => (ex_load1 rfl rfl Tryz.underlying2 rfl ((hS_.at_ hc0) 0 _ rfl))) hS ?_
    refine drwp_one rfl (guard_none rfl) rfl rfl (does_callk rfl callok47 rfl (spec_l1In.calls (x0 := x0.fKind) (x1 := 0) (x2 := 2) h1984)) ?_
    rintro _ w1985 ⟨rfl, hn⟩
    replace HM : Mem w [] w1985 [] := HM.call hn
    refine ⟨Mem.suf (M := []) HM, ?_⟩
    have hS := Mem.suf (M := []) HM
    refine drwp_take rfl (guard_none rfl) rfl rfl (fun w_ hS_ => (ex_not rfl rfl)) hS ?_
    refine drwp_take rfl (guard_none rfl) rfl rfl (fun w_ hS_ => (ex_move rfl rfl)) hS ?_
    refine bool_cases (!t1983) (fun hg1986 => ?_) (fun hg1986 => ?_)
    · skip
      refine drwp_off rfl (guard_off rfl rfl rfl hg1986) rfl rfl hS ?_
      refine drwp_off rfl (guard_off rfl rfl rfl hg1986) rfl rfl hS ?_
      refine drwp_off rfl (guard_off rfl rfl rfl hg1986) rfl rfl hS ?_
      refine drwp_off rfl (guard_off rfl rfl rfl hg1986) rfl rfl hS ?_
      refine drwp_off rfl (guard_off rfl rfl rfl hg1986) rfl rfl hS ?_
      refine drwp_off rfl (guard_off rfl rfl rfl hg1986) rfl rfl hS ?_
      refine drwp_off rfl (guard_off rfl rfl rfl hg1986) rfl rfl hS ?_
      refine drwp_off rfl (guard_off rfl rfl rfl hg1986) rfl rfl hS ?_
      refine drwp_off rfl (guard_off rfl rfl rfl hg1986) rfl rfl hS ?_
      refine drwp_off rfl (guard_off rfl rfl rfl hg1986) rfl rfl hS ?_
      refine drwp_off rfl (guard_off rfl rfl rfl hg1986) rfl rfl hS ?_
      have hg1987 : ((!t1983) || ((x0.fKind == 0) != (x0.fMember == 0))) = true := by simp only [hg1986, Bool.and_true, Bool.true_and, Bool.and_false, Bool.false_and, Bool.or_true, Bool.true_or, Bool.or_false, Bool.false_or, Bool.not_true, Bool.not_false, Bool.not_not]
      refine drwp_take (v := .bool ((!t1983) || ((x0.fKind == 0) != (x0.fMember == 0)))) rfl (guard_none rfl) rfl rfl (fun w_ hS_ => (ex_por_t rfl rfl hg1986)) hS ?_
      refine drwp_done ?_
      exact at_meet [(0, .pointer (some ⟨b0, f0, none⟩)), (22, .bool ((!t1983) || ((x0.fKind == 0) != (x0.fMember == 0))))] ⟨rfl, HM⟩ (Sub.cons rfl (Sub.cons rfl Sub.nil))
    · skip
      refine drwp_take rfl (guard_on rfl rfl rfl hg1986) rfl rfl (fun w_ hS_ => (ex_move rfl rfl)) hS ?_
      refine drwp_take rfl (guard_on rfl rfl rfl hg1986) rfl rfl (fun w_ hS_ => (ex_nilCheck rfl rfl)) hS ?_
      refine drwp_take rfl (guard_on rfl rfl rfl hg1986) rfl rfl (fun w_ hS_ => (ex_fieldAddr (off' := f0) rfl rfl Tryz.underlying37 rfl tsz2 rfl)) hS ?_
      refine drwp_take rfl (guard_on rfl rfl rfl hg1986) rfl rfl (fun w_ hS_ => (ex_load1 rfl rfl Tryz.underlying2 rfl ((hS_.at_ hc0) 0 _ rfl))) hS ?_
      refine drwp_take rfl (guard_on rfl rfl rfl hg1986) rfl rfl (fun w_ hS_ => (ex_eql rfl rfl rfl)) hS ?_
      refine drwp_take rfl (guard_on rfl rfl rfl hg1986) rfl rfl (fun w_ hS_ => (ex_move rfl rfl)) hS ?_
      refine drwp_take rfl (guard_on rfl rfl rfl hg1986) rfl rfl (fun w_ hS_ => (ex_nilCheck rfl rfl)) hS ?_
      refine drwp_take rfl (guard_on rfl rfl rfl hg1986) rfl rfl (fun w_ hS_ => (ex_fieldAddr (off' := f0 + 1) rfl rfl Tryz.underlying37 rfl tsz2 rfl)) hS ?_
      refine drwp_take rfl (guard_on rfl rfl rfl hg1986) rfl rfl (fun w_ hS_ => (ex_load1 rfl rfl Tryz.underlying2 rfl ((hS_.at_ hc0) 1 _ rfl))) hS ?_
      refine drwp_take rfl (guard_on rfl rfl rfl hg1986) rfl rfl (fun w_ hS_ => (ex_eql rfl rfl rfl)) hS ?_
      refine drwp_take rfl (guard_on rfl rfl rfl hg1986) rfl rfl (fun w_ hS_ => (ex_bneq rfl rfl rfl Tryz.underlying4)) hS ?_
      refine drwp_take (v := .bool ((!t1983) || ((x0.fKind == 0) != (x0.fMember == 0)))) rfl (guard_none rfl) rfl rfl (fun w_ hS_ => (ex_por_f rfl rfl hg1986 rfl)) hS ?_
      refine drwp_done ?_
      exact at_meet [(0, .pointer (some ⟨b0, f0, none⟩)), (22, .bool ((!t1983) || ((x0.fKind == 0) != (x0.fMember == 0))))] ⟨rfl, HM⟩ (Sub.cons rfl (Sub.cons rfl Sub.nil))
  · rintro _ w1988 ⟨rfl, HM⟩
    refine at_then ?_
    refine run_cond (b := ((!t1983) || ((x0.fKind == 0) != (x0.fMember == 0)))) rfl (fun hb1989 => ?_) (fun hb1989 => ?_)
    · replace H := cond_t hb1989 H
      refine run_seq ?_
      refine run_region rfl ?_
      refine ops_ex rfl (guard_none rfl) rfl rfl (ex_assign rfl rfl) ?_
      refine ops_nil ?_
      refine at_then ?_
      refine run_ret ?_
      refine at_then_ret ?_
      have hR := Option.some.inj H
      subst hR
      exact at_ret1 rfl rfl ⟨_, rfl, rfl, HM⟩
    · replace H := cond_f hb1989 H
      refine run_skip ?_
      refine at_then ?_
      refine run_seq ?_
      refine run_seq ?_
      obtain ⟨t1993, h1994, H⟩ := bind_some H
      refine run_meet (fun ρ_ w_ => ρ_ = [(0, .pointer (some ⟨b0, f0, none⟩)), (35, .bool ((x0.fKind != 0) && (!t1993)))] ∧ Mem w [] w_ []) ?_ ?_
      · skip
        refine run_region rfl ?_
        refine ops_ex rfl (guard_none rfl) rfl rfl (ex_move rfl rfl) ?_
        refine ops_ex rfl (guard_none rfl) rfl rfl (ex_nilCheck rfl rfl) ?_
        refine ops_ex rfl (guard_none rfl) rfl rfl (ex_fieldAddr (off' := f0) rfl rfl Tryz.underlying37 rfl tsz2 rfl) ?_
        refine ops_ex rfl (guard_none rfl) rfl rfl (ex_load1 rfl rfl Tryz.underlying2 rfl ((HM.at_ hc0) 0 _ rfl)) ?_
        refine ops_ex rfl (guard_none rfl) rfl rfl (ex_neq rfl rfl rfl) ?_
        refine ops_ex rfl (guard_none rfl) rfl rfl (ex_move rfl rfl) ?_
        refine bool_cases (x0.fKind != 0) (fun hg1995 => ?_) (fun hg1995 => ?_)
        · skip
          refine ops_ex rfl (guard_on rfl rfl rfl hg1995) rfl rfl (ex_move rfl rfl) ?_
          refine ops_ex rfl (guard_on rfl rfl rfl hg1995) rfl rfl (ex_nilCheck rfl rfl) ?_
          refine ops_ex rfl (guard_on rfl rfl rfl hg1995) rfl rfl (ex_fieldAddr (off' := f0 + 1) rfl rfl Tryz.underlying37 rfl tsz2 rfl) ?_
          refine ops_ex rfl (guard_on rfl rfl rfl hg1995) rfl rfl (ex_load1 rfl rfl Tryz.underlying2 rfl ((HM.at_ hc0) 1 _ rfl)) ?_
          refine ops_does rfl (guard_on rfl rfl rfl hg1995) rfl rfl (does_callk rfl callok74 rfl (spec_l1Key.calls (x0 := x0.fMember) (cond_t hg1995 h1994))) ?_
          rintro _ w1996 ⟨rfl, hn⟩
          replace HM : Mem w [] w1996 [] := HM.call hn
          refine ops_ex rfl (guard_on rfl rfl rfl hg1995) rfl rfl (ex_not rfl rfl) ?_
          refine ops_ex (v := .bool ((x0.fKind != 0) && (!t1993))) rfl (guard_none rfl) rfl rfl (ex_pand_t rfl rfl hg1995 rfl) ?_
          refine ops_nil ?_
          exact at_meet [(0, .pointer (some ⟨b0, f0, none⟩)), (35, .bool ((x0.fKind != 0) && (!t1993)))] ⟨rfl, HM⟩ (Sub.cons rfl (Sub.cons rfl Sub.nil))
        · skip
          refine ops_off rfl (guard_off rfl rfl rfl hg1995) rfl rfl ?_
          refine ops_off rfl (guard_off rfl rfl rfl hg1995) rfl rfl ?_
          refine ops_off rfl (guard_off rfl rfl rfl hg1995) rfl rfl ?_
          refine ops_off rfl (guard_off rfl rfl rfl hg1995) rfl rfl ?_
          refine ops_off rfl (guard_off rfl rfl rfl hg1995) rfl rfl ?_
          refine ops_off rfl (guard_off rfl rfl rfl hg1995) rfl rfl ?_
          have hg1997 : ((x0.fKind != 0) && (!t1993)) = false := by simp only [hg1995, Bool.and_true, Bool.true_and, Bool.and_false, Bool.false_and, Bool.or_true, Bool.true_or, Bool.or_false, Bool.false_or, Bool.not_true, Bool.not_false, Bool.not_not]
          refine ops_ex (v := .bool ((x0.fKind != 0) && (!t1993))) rfl (guard_none rfl) rfl rfl (ex_pand_f rfl rfl hg1995) ?_
          refine ops_nil ?_
          exact at_meet [(0, .pointer (some ⟨b0, f0, none⟩)), (35, .bool ((x0.fKind != 0) && (!t1993)))] ⟨rfl, HM⟩ (Sub.cons rfl (Sub.cons rfl Sub.nil))
      · rintro _ w1998 ⟨rfl, HM⟩
        refine at_then ?_
        refine run_cond (b := ((x0.fKind != 0) && (!t1993))) rfl (fun hb1999 => ?_) (fun hb1999 => ?_)
        · replace H := cond_t hb1999 H
          refine run_seq ?_
          refine run_region rfl ?_
          refine ops_ex rfl (guard_none rfl) rfl rfl (ex_assign rfl rfl) ?_
          refine ops_nil ?_
          refine at_then ?_
          refine run_ret ?_
          refine at_then_ret ?_
          have hR := Option.some.inj H
          subst hR
          exact at_ret1 rfl rfl ⟨_, rfl, rfl, HM⟩
        · replace H := cond_f hb1999 H
          refine run_skip ?_
          refine at_then ?_
          refine run_seq ?_
          refine run_seq ?_
          obtain ⟨t2005, h2006, H⟩ := bind_some H
          obtain ⟨t2007, h2008, H⟩ := bind_some H
          refine run_meet (fun ρ_ w_ => ρ_ = [(0, .pointer (some ⟨b0, f0, none⟩)), (51, .bool ((!t2005) || (!t2007)))] ∧ Mem w [] w_ []) ?_ ?_
          · skip
            refine run_region rfl ?_
            refine ops_ex rfl (guard_none rfl) rfl rfl (ex_move rfl rfl) ?_
            refine ops_ex rfl (guard_none rfl) rfl rfl (ex_nilCheck rfl rfl) ?_
            refine ops_ex rfl (guard_none rfl) rfl rfl (ex_fieldAddr (off' := f0 + 2) rfl rfl Tryz.underlying37 rfl tsz34 rfl) ?_
            refine ops_ex rfl (guard_none rfl) rfl rfl (ex_load1 rfl rfl Tryz.underlying34 rfl ((HM.at_ hc0) 2 _ rfl)) ?_
            refine ops_ex rfl (guard_none rfl) rfl rfl (ex_len (d := kRef) (xs := x0.fIns) rfl rfl Tryz.underlying34 hp0_0) ?_
            refine ops_does rfl (guard_none rfl) rfl rfl (does_callk rfl callok47 rfl (spec_l1In.calls (x0 := (x0.fIns.length : Int)) (x1 := 1) (x2 := 4) h2006)) ?_
            rintro _ w2009 ⟨rfl, hn⟩
            replace HM : Mem w [] w2009 [] := HM.call hn
            refine ops_ex rfl (guard_none rfl) rfl rfl (ex_not rfl rfl) ?_
            refine ops_ex rfl (guard_none rfl) rfl rfl (ex_move rfl rfl) ?_
            refine bool_cases (!t2005) (fun hg2010 => ?_) (fun hg2010 => ?_)
            · skip
              refine ops_off rfl (guard_off rfl rfl rfl hg2010) rfl rfl ?_
              refine ops_off rfl (guard_off rfl rfl rfl hg2010) rfl rfl ?_
              refine ops_off rfl (guard_off rfl rfl rfl hg2010) rfl rfl ?_
              refine ops_off rfl (guard_off rfl rfl rfl hg2010) rfl rfl ?_
              refine ops_off rfl (guard_off rfl rfl rfl hg2010) rfl rfl ?_
              refine ops_off rfl (guard_off rfl rfl rfl hg2010) rfl rfl ?_
              refine ops_off rfl (guard_off rfl rfl rfl hg2010) rfl rfl ?_
              have hg2011 : ((!t2005) || (!t2007)) = true := by simp only [hg2010, Bool.and_true, Bool.true_and, Bool.and_false, Bool.false_and, Bool.or_true, Bool.true_or, Bool.or_false, Bool.false_or, Bool.not_true, Bool.not_false, Bool.not_not]
              refine ops_ex (v := .bool ((!t2005) || (!t2007))) rfl (guard_none rfl) rfl rfl (ex_por_t rfl rfl hg2010) ?_
              refine ops_nil ?_
              exact at_meet [(0, .pointer (some ⟨b0, f0, none⟩)), (51, .bool ((!t2005) || (!t2007)))] ⟨rfl, HM⟩ (Sub.cons rfl (Sub.cons rfl Sub.nil))
            · skip
              refine ops_ex rfl (guard_on rfl rfl rfl hg2010) rfl rfl (ex_move rfl rfl) ?_
              refine ops_ex rfl (guard_on rfl rfl rfl hg2010) rfl rfl (ex_nilCheck rfl rfl) ?_
              refine ops_ex rfl (guard_on rfl rfl rfl hg2010) rfl rfl (ex_fieldAddr (off' := f0 + 3) rfl rfl Tryz.underlying37 rfl tsz35 rfl) ?_
              refine ops_ex rfl (guard_on rfl rfl rfl hg2010) rfl rfl (ex_load1 rfl rfl Tryz.underlying35 rfl ((HM.at_ hc0) 3 _ rfl)) ?_
              refine ops_ex rfl (guard_on rfl rfl rfl hg2010) rfl rfl (ex_len (d := kOut) (xs := x0.fOuts) rfl rfl Tryz.underlying35 hp0_1) ?_
              refine ops_does rfl (guard_on rfl rfl rfl hg2010) rfl rfl (does_callk rfl callok47 rfl (spec_l1In.calls (x0 := (x0.fOuts.length : Int)) (x1 := 1) (x2 := 4) (cond_t (not_mk hg2010) h2008))) ?_
              rintro _ w2012 ⟨rfl, hn⟩
              replace HM : Mem w [] w2012 [] := HM.call hn
              refine ops_ex rfl (guard_on rfl rfl rfl hg2010) rfl rfl (ex_not rfl rfl) ?_
              refine ops_ex (v := .bool ((!t2005) || (!t2007))) rfl (guard_none rfl) rfl rfl (ex_por_f rfl rfl hg2010 rfl) ?_
              refine ops_nil ?_
              exact at_meet [(0, .pointer (some ⟨b0, f0, none⟩)), (51, .bool ((!t2005) || (!t2007)))] ⟨rfl, HM⟩ (Sub.cons rfl (Sub.cons rfl Sub.nil))
          · rintro _ w2013 ⟨rfl, HM⟩
            refine at_then ?_
            refine run_cond (b := ((!t2005) || (!t2007))) rfl (fun hb2014 => ?_) (fun hb2014 => ?_)
            · replace H := cond_t hb2014 H
              refine run_seq ?_
              refine run_region rfl ?_
              refine ops_ex rfl (guard_none rfl) rfl rfl (ex_assign rfl rfl) ?_
              refine ops_nil ?_
              refine at_then ?_
              refine run_ret ?_
              refine at_then_ret ?_
              have hR := Option.some.inj H
              subst hR
              exact at_ret1 rfl rfl ⟨_, rfl, rfl, HM⟩
            · replace H := cond_f hb2014 H
              refine run_skip ?_
              refine at_then ?_
              obtain ⟨o2076, ho2077, H⟩ := bind_some H
              refine run_mid (fun ρ_ w_ => Sum.inr () = o2076 ∧ ρ_ = [(0, .pointer (some ⟨b0, f0, none⟩))] ∧ Mem w [] w_ []) ?_ ?_
              · skip
                refine run_seq ?_
                refine run_region rfl ?_
                refine ops_ex rfl (guard_none rfl) rfl rfl (ex_assign rfl rfl) ?_
                refine ops_nil ?_
                refine at_then ?_
                refine run_block ?_
                refine run_loop (fun k_ ρ_ w_ => ∃ a2098 : Int, spec_l3Fault.l0 x0 k_ a2098 = some o2076 ∧ ρ_ = [(0, .pointer (some ⟨b0, f0, none⟩)), (3, .int .i64 a2098)] ∧ Mem w [] w_ []) k (ρ1 := [(0, .pointer (some ⟨b0, f0, none⟩)), (3, .int .i64 0)]) ⟨_, ho2077, rfl, HM⟩ (Sub.cons rfl (Sub.cons rfl Sub.nil)) ?_
                clear HM ho2077
                rintro k2119 _ w2120 ⟨a2098, ho2077, rfl, HM⟩
                obtain _ | k2119 := k2119
                · exact nomatch ((spec_l3Fault.l0_z x0 a2098).symm.trans ho2077)
                replace ho2077 := (spec_l3Fault.l0_s x0 k2119 a2098).symm.trans ho2077
                refine run_seq ?_
                refine run_seq ?_
                refine run_region rfl ?_
                refine ops_ex rfl (guard_none rfl) rfl rfl (ex_move rfl rfl) ?_
                refine ops_ex rfl (guard_none rfl) rfl rfl (ex_move rfl rfl) ?_
                refine ops_ex rfl (guard_none rfl) rfl rfl (ex_nilCheck rfl rfl) ?_
                refine ops_ex rfl (guard_none rfl) rfl rfl (ex_fieldAddr (off' := f0 + 2) rfl rfl Tryz.underlying37 rfl tsz34 rfl) ?_
                refine ops_ex rfl (guard_none rfl) rfl rfl (ex_load1 rfl rfl Tryz.underlying34 rfl ((HM.at_ hc0) 2 _ rfl)) ?_
                refine ops_ex rfl (guard_none rfl) rfl rfl (ex_len (d := kRef) (xs := x0.fIns) rfl rfl Tryz.underlying34 hp0_0) ?_
                refine ops_ex rfl (guard_none rfl) rfl rfl (ex_lss rfl rfl rfl) ?_
                refine ops_nil ?_
                refine at_then ?_
                refine run_cond (b := (decide (a2098 < (x0.fIns.length : Int)))) rfl (fun hb2121 => ?_) (fun hb2121 => ?_)
                · replace ho2077 := cond_t hb2121 ho2077
                  refine run_skip ?_
                  refine at_then ?_
                  refine run_seq ?_
                  refine run_block ?_
                  refine run_seq ?_
                  refine run_seq ?_
                  obtain ⟨e2127, ho2077⟩ := chk_some ho2077
                  obtain ⟨t2129, h2130, ho2077⟩ := bind_some ho2077
                  refine run_region rfl ?_
                  refine ops_ex rfl (guard_none rfl) rfl rfl (ex_move rfl rfl) ?_
                  refine ops_ex rfl (guard_none rfl) rfl rfl (ex_nilCheck rfl rfl) ?_
                  refine ops_ex rfl (guard_none rfl) rfl rfl (ex_fieldAddr (off' := f0 + 2) rfl rfl Tryz.underlying37 rfl tsz34 rfl) ?_
                  refine ops_ex rfl (guard_none rfl) rfl rfl (ex_load1 rfl rfl Tryz.underlying34 rfl ((HM.at_ hc0) 2 _ rfl)) ?_
                  refine ops_ex rfl (guard_none rfl) rfl rfl (ex_move rfl rfl) ?_
                  have hc2128 : CellsAt _ (sb p0_0) (so p0_0 + (a2098).toNat * 2) [(.int .i64 ((gt x0.fIns a2098).fTx)), (.int .i64 ((gt x0.fIns a2098).fAt))] := rd_plain hp0_0 e2127
                  refine ops_ex rfl (guard_none rfl) rfl rfl (ex_indexAddr (d := kRef) rfl rfl rfl Tryz.underlying34 tsz56 hp0_0 (idx_lo e2127) (idx_hi e2127)) ?_
                  refine ops_ex rfl (guard_none rfl) rfl rfl (ex_loadN (cs := [(.int .i64 ((gt x0.fIns a2098).fTx)), (.int .i64 ((gt x0.fIns a2098).fAt))]) rfl rfl Tryz.underlying56 rfl tsz56 rfl ((HM.at_ hc2128).sub 0 2 rfl)) ?_
                  refine ops_does rfl (guard_none rfl) rfl rfl (does_callk rfl callok70 rfl (spec_l3Ref.calls (x0 := (gt x0.fIns a2098)) h2130)) ?_
                  rintro _ w2131 ⟨rfl, hn⟩
                  replace HM : Mem w [] w2131 [] := HM.call hn
                  refine ops_ex rfl (guard_none rfl) rfl rfl (ex_not rfl rfl) ?_
                  refine ops_nil ?_
                  refine at_then ?_
                  refine run_cond (b := !t2129) rfl (fun hb2132 => ?_) (fun hb2132 => ?_)
                  · replace ho2077 := cond_t hb2132 ho2077
                    refine run_seq ?_
                    refine run_region rfl ?_
                    refine ops_ex rfl (guard_none rfl) rfl rfl (ex_assign rfl rfl) ?_
                    refine ops_nil ?_
                    refine at_then ?_
                    refine run_ret ?_
                    refine at_then_ret ?_
                    refine at_block_ret ?_
                    refine at_then_ret ?_
                    refine at_then_ret ?_
                    refine at_block_ret ?_
                    refine at_then_ret ?_
                    have hR := Option.some.inj ho2077
                    subst hR
                    have hT := thn_inl H
                    have hR := Option.some.inj hT
                    subst hR
                    exact at_ret1 rfl rfl ⟨_, rfl, rfl, HM⟩
                  · replace ho2077 := cond_f hb2132 ho2077
                    refine run_skip ?_
                    refine at_then ?_
                    refine run_seq ?_
                    obtain ⟨e2133, ho2077⟩ := chk_some ho2077
                    obtain ⟨e2137, ho2077⟩ := chk_some ho2077
                    obtain ⟨t2139, h2140, ho2077⟩ := bind_some ho2077
                    refine run_drawf (fun w_ => Mem w [] w_ []) [(0, true), (1, true), (2, true), (3, true), (4, true), (5, true), (6, true), (7, true), (8, true), (9, true), (10, true), (11, true), (12, true), (13, false)] mixed rfl rfl (by kernel_rfl) ?_
                    replace HM := HM.grow (fr_drew _)
                    have hS := Mem.suf (M := []) HM
                    refine drwp_take rfl (guard_none rfl) rfl rfl (fun w_ hS_ => (ex_move rfl rfl)) hS ?_
                    refine drwp_take rfl (guard_none rfl) rfl rfl (fun w_ hS_ => (ex_nilCheck rfl rfl)) hS ?_
                    refine drwp_take rfl (guard_none rfl) rfl rfl (fun w_ hS_ => (ex_fieldAddr (off' := f0 + 2) rfl rfl Tryz.underlying37 rfl tsz34 rfl)) hS ?_
                    refine drwp_take rfl (guard_none rfl) rfl rfl (fun w_ hS_ => (ex_load1 rfl rfl Tryz.underlying34 rfl ((hS_.at_ hc0) 2 _ rfl))) hS ?_
                    refine drwp_take rfl (guard_none rfl) rfl rfl (fun w_ hS_ => (ex_move rfl rfl)) hS ?_
                    refine drwp_takeE rfl (guard_none rfl) rfl rfl (ex_cutH kRef rfl rfl rfl Tryz.underlying34 tsz56 hp0_0 e2133) hS ?_
                    rintro u2134 hr2136
                    refine drwp_take rfl (guard_none rfl) rfl rfl (fun w_ hS_ => (ex_move rfl rfl)) hS ?_
                    refine drwp_take rfl (guard_none rfl) rfl rfl (fun w_ hS_ => (ex_nilCheck rfl rfl)) hS ?_
                    refine drwp_take rfl (guard_none rfl) rfl rfl (fun w_ hS_ => (ex_fieldAddr (off' := f0 + 2) rfl rfl Tryz.underlying37 rfl tsz34 rfl)) hS ?_
                    refine drwp_take rfl (guard_none rfl) rfl rfl (fun w_ hS_ => (ex_load1 rfl rfl Tryz.underlying34 rfl ((hS_.at_ hc0) 2 _ rfl))) hS ?_
                    refine drwp_take rfl (guard_none rfl) rfl rfl (fun w_ hS_ => (ex_move rfl rfl)) hS ?_
                    have hc2138 : CellsAt _ (sb p0_0) (so p0_0 + (a2098).toNat * 2) [(.int .i64 ((gt x0.fIns a2098).fTx)), (.int .i64 ((gt x0.fIns a2098).fAt))] := rd_plain hp0_0 e2137
                    refine drwp_take rfl (guard_none rfl) rfl rfl (fun w_ hS_ => (ex_indexAddr (d := kRef) rfl rfl rfl Tryz.underlying34 tsz56 hp0_0 (idx_lo e2137) (idx_hi e2137))) hS ?_
                    refine drwp_take rfl (guard_none rfl) rfl rfl (fun w_ hS_ => (ex_loadN (cs := [(.int .i64 ((gt x0.fIns a2098).fTx)), (.int .i64 ((gt x0.fIns a2098).fAt))]) rfl rfl Tryz.underlying56 rfl tsz56 rfl ((hS_.at_ hc2138).sub 0 2 rfl))) hS ?_
                    refine drwp_one rfl (guard_none rfl) rfl rfl (does_callk rfl callok75 rfl (spec_l3Among.calls (x0 := x0.fIns.take (a2098).toNat) (x1 := (gt x0.fIns a2098)) (HM.rd hr2136) h2140)) ?_
                    rintro _ w2141 ⟨rfl, hn⟩
                    replace HM : Mem w [] w2141 [] := HM.call hn
                    refine ⟨Mem.suf (M := []) HM, ?_⟩
                    have hS := Mem.suf (M := []) HM
                    refine drwp_done ?_
                    refine at_then ?_
                    refine run_cond (b := t2139) rfl (fun hb2142 => ?_) (fun hb2142 => ?_)
                    · replace ho2077 := cond_t hb2142 ho2077
                      refine run_seq ?_
                      refine run_region rfl ?_
                      refine ops_ex rfl (guard_none rfl) rfl rfl (ex_assign rfl rfl) ?_
                      refine ops_nil ?_
                      refine at_then ?_
                      refine run_ret ?_
                      refine at_block_ret ?_
                      refine at_then_ret ?_
                      refine at_then_ret ?_
                      refine at_block_ret ?_
                      refine at_then_ret ?_
                      have hR := Option.some.inj ho2077
                      subst hR
                      have hT := thn_inl H
                      have hR := Option.some.inj hT
                      subst hR
                      exact at_ret1 rfl rfl ⟨_, rfl, rfl, HM⟩
                    · replace ho2077 := cond_f hb2142 ho2077
                      refine run_skip ?_
                      refine at_block ?_
                      refine at_then ?_
                      refine run_region rfl ?_
                      refine ops_ex rfl (guard_none rfl) rfl rfl (ex_move rfl rfl) ?_
                      refine ops_ex rfl (guard_none rfl) rfl rfl (ex_add rfl rfl rfl) ?_
                      refine ops_ex rfl (guard_none rfl) rfl rfl (ex_assign rfl rfl) ?_
                      refine ops_nil ?_
                      exact at_again k2119 (ρ1 := [(0, .pointer (some ⟨b0, f0, none⟩)), (3, .int .i64 (wrap64 (a2098 + 1)))]) (Nat.lt_succ_self _) ⟨_, ho2077, rfl, HM⟩ (Sub.cons rfl (Sub.cons rfl Sub.nil))
                · replace ho2077 := cond_f hb2121 ho2077
                  refine run_exit ?_
                  refine at_then_exit ?_
                  refine at_then_exit ?_
                  refine at_block_exit ?_
                  exact at_mid (ρ' := [(0, .pointer (some ⟨b0, f0, none⟩))]) ⟨(Option.some.inj ho2077), rfl, HM⟩ (Sub.cons rfl Sub.nil)
              · rintro _ w2143 ⟨rfl, rfl, HM⟩
                replace H := (thn_inr H)
                refine run_seq ?_
                obtain ⟨t2144, h2145, H⟩ := bind_some H
                refine run_region rfl ?_
                refine ops_ex rfl (guard_none rfl) rfl rfl (ex_move rfl rfl) ?_
                refine ops_does rfl (guard_none rfl) rfl rfl (does_callk rfl callok76 rfl (spec_l3Outs.calls (x0 := x0) (HM.at_ hc0) (HM.rd hp0_0) (HM.rd hp0_1) h2145)) ?_
                rintro _ w2146 ⟨rfl, hn⟩
                replace HM : Mem w [] w2146 [] := HM.call hn
                refine ops_ex rfl (guard_none rfl) rfl rfl (ex_assign rfl rfl) ?_
                refine ops_nil ?_
                refine at_then ?_
                refine run_ret ?_
                have hR := Option.some.inj H
                subst hR
                exact at_ret1 rfl rfl ⟨_, rfl, rfl, HM⟩
end Go.Proofs.YtcamddjlhchkfaaGreat.Zk
