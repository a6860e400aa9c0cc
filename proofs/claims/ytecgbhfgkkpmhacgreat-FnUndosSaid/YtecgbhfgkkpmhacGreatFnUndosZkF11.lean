/- What functions of the program compute, each as a plain function, and that they do. Conditions: as each theorem states them. -/
import Derived.Test.YtecgbhfgkkpmhacGreatFnUndosZkF10
namespace Go.Proofs.YtecgbhfgkkpmhacGreat.Zk
open Go Go.RowKit Go.IntWalk Go.Proofs
set_option linter.unusedVariables false
set_option linter.unusedSimpArgs false
set_option maxRecDepth 100000
set_option maxHeartbeats 4000000
def impl_RuleFault.f (k : Nat) (x0 : Rule) : Option Int := ((impl_within.f k (x0.fKeys.length : Int) 1 3).bind fun t10 => (bif !t10 then some 2 else ((impl_areKeys.f k x0.fKeys).bind fun t11 => ((bif (!(!t11)) then impl_within.f k x0.fNeed 1 (x0.fKeys.length : Int) else some default).bind fun t12 => ((bif (!((!t11) || (!t12))) then impl_isHeight.f k x0.fAfter else some default).bind fun t13 => (bif (((!t11) || (!t12)) || (!t13)) then some 3 else ((impl_isRising.f k x0.fKeys).bind fun t14 => (bif !t14 then some 1 else some 0))))))))
theorem impl_RuleFault.calls {k : Nat} {x0 : Rule} {p0_0 : Value} {w : World} (hp0_0 : RdS kInt w p0_0 x0.fKeys) {r : Int} (H : impl_RuleFault.f k x0 = some r) :
  Calls Tryz.prog 32 ([.agg #[p0_0, (nI x0.fNeed), (nI x0.fAfter)]] : List Value).toArray w (fun e w_ => ∃ v, e = .returned v ∧ v = (nI r) ∧ Mem w [] w_ []) := by
 have HM := Mem.start w
 refine calls_run (N := 34) Tryz.func32 rfl rfl rfl rfl ?_
 unfold impl_RuleFault.f at H
 refine run_seq (run_region rfl (oz rfl (does_box (cs := [p0_0, nI x0.fNeed, nI x0.fAfter]) rfl rfl rfl HM) ?_))
 rintro _ w15 ⟨b16, rfl, HM⟩
 refine oM rfl (ops_nil (at_then (run_seq (run_region rfl (oy rfl (ex_fieldAddr (off' := 0) rfl rfl U66 rfl tsz58 rfl) (oy rfl (ex_load1 rfl rfl U58 rfl ((HM.box_at 0 rfl) 0 _ rfl)) (oy rfl (ex_len (d := kInt) (xs := x0.fKeys) rfl rfl U58 hp0_0) (oM rfl (ops_nil (at_then (run_seq (run_block (run_seq ?_)))))))))))))
 obtain ⟨t10, h17, H⟩ := bind_some H
 refine run_region rfl (oM rfl (oz rfl (does_callk rfl callok31 rfl (impl_within.calls (x0 := (x0.fKeys.length : Int)) (x1 := 1) (x2 := 3) h17)) ?_))
 rintro _ w18 ⟨rfl, hn⟩
 replace HM := HM.callN hn rfl
 refine oy rfl (ex_not rfl rfl) (oM rfl (ops_nil (at_then (run_cond (b := !t10) rfl (fun hb19 => ?_) (fun hb19 => ?_)))))
 ·replace H := cond_t hb19 H
  refine run_seq (run_region rfl (oM rfl (ops_nil (at_then (run_ret (at_block_ret (at_then_ret ?_)))))))
  replace HM := HM.frd 0 rfl
  cases H
  exact at_ret1 rfl rfl ⟨_, rfl, rfl, HM⟩
 ·replace H := cond_f hb19 H
  refine run_seq ?_
  obtain ⟨t11, h20, H⟩ := bind_some H
  obtain ⟨t12, h21, H⟩ := bind_some H
  obtain ⟨t13, h22, H⟩ := bind_some H
  refine run_meet (fun ρ_ w_ => ρ_ = [(1, pA b16 0), (11, .bool (((!t11) || (!t12)) || (!t13)))] ∧ Mem w [] w_ [box b16 66 [p0_0, nI x0.fNeed, nI x0.fAfter]]) ?_ ?_
  ·refine run_region rfl (oy rfl (ex_fieldAddr (off' := 0) rfl rfl U66 rfl tsz58 rfl) (oy rfl (ex_load1 rfl rfl U58 rfl ((HM.box_at 0 rfl) 0 _ rfl)) (oz rfl (does_callk rfl callok66 rfl (impl_areKeys.calls (x0 := x0.fKeys) (HM.rd hp0_0) h20)) ?_)))
   rintro _ w23 ⟨rfl, hn⟩
   replace HM := HM.callN hn rfl
   refine oy rfl (ex_not rfl rfl) (oM rfl ?_)
   refine bool_cases (!t11) (fun hg24 => ?_) (fun hg24 => ?_)
   ·refine gf rfl hg24 (gf rfl hg24 (gf rfl hg24 (gf rfl hg24 (gf rfl hg24 ?_))))
    have hg25 : ((!t11) || (!t12)) = true := by simp only [hg24, Bool.and_true, Bool.true_and, Bool.and_false, Bool.false_and, Bool.or_true, Bool.true_or, Bool.or_false, Bool.false_or, Bool.not_true, Bool.not_false, Bool.not_not]
    refine ops_ex (v := .bool ((!t11) || (!t12))) rfl (guard_none rfl) rfl rfl (ex_por_t rfl rfl hg24) (oM rfl (gf rfl hg25 (gf rfl hg25 (gf rfl hg25 (gf rfl hg25 ?_)))))
    have hg26 : (((!t11) || (!t12)) || (!t13)) = true := by simp only [hg25, Bool.and_true, Bool.true_and, Bool.and_false, Bool.false_and, Bool.or_true, Bool.true_or, Bool.or_false, Bool.false_or, Bool.not_true, Bool.not_false, Bool.not_not]
    exact ops_ex (v := .bool (((!t11) || (!t12)) || (!t13))) rfl (guard_none rfl) rfl rfl (ex_por_t rfl rfl hg25) (oM rfl (ops_nil (at_meet _ ⟨rfl, HM⟩ (Sub.of rfl))))
   ·refine gn rfl hg24 (ex_fieldAddr (off' := 1) rfl rfl U66 rfl tsz2 rfl) (gn rfl hg24 (ex_load1 rfl rfl U2 rfl ((HM.box_at 0 rfl) 1 _ rfl)) (gn rfl hg24 (ex_move rfl rfl) (ops_does rfl (guard_on rfl rfl rfl hg24) rfl rfl (does_callk rfl callok31 rfl (impl_within.calls (x0 := x0.fNeed) (x1 := 1) (x2 := (x0.fKeys.length : Int)) (cond_t (not_mk hg24) h21))) ?_)))
    rintro _ w27 ⟨rfl, hn⟩
    replace HM := HM.callN hn rfl
    refine gn rfl hg24 (ex_not rfl rfl) (ops_ex (v := .bool ((!t11) || (!t12))) rfl (guard_none rfl) rfl rfl (ex_por_f rfl rfl hg24 rfl) (oM rfl ?_))
    refine bool_cases ((!t11) || (!t12)) (fun hg28 => ?_) (fun hg28 => ?_)
    ·refine gf rfl hg28 (gf rfl hg28 (gf rfl hg28 (gf rfl hg28 ?_)))
     have hg29 : (((!t11) || (!t12)) || (!t13)) = true := by simp only [hg28, Bool.and_true, Bool.true_and, Bool.and_false, Bool.false_and, Bool.or_true, Bool.true_or, Bool.or_false, Bool.false_or, Bool.not_true, Bool.not_false, Bool.not_not]
     exact ops_ex (v := .bool (((!t11) || (!t12)) || (!t13))) rfl (guard_none rfl) rfl rfl (ex_por_t rfl rfl hg28) (oM rfl (ops_nil (at_meet _ ⟨rfl, HM⟩ (Sub.of rfl))))
    ·refine gn rfl hg28 (ex_fieldAddr (off' := 2) rfl rfl U66 rfl tsz2 rfl) (gn rfl hg28 (ex_load1 rfl rfl U2 rfl ((HM.box_at 0 rfl) 2 _ rfl)) (ops_does rfl (guard_on rfl rfl rfl hg28) rfl rfl (does_callk rfl callok30 rfl (impl_isHeight.calls (x0 := x0.fAfter) (cond_t (not_mk hg28) h22))) ?_))
     rintro _ w30 ⟨rfl, hn⟩
     replace HM := HM.callN hn rfl
     exact gn rfl hg28 (ex_not rfl rfl) (ops_ex (v := .bool (((!t11) || (!t12)) || (!t13))) rfl (guard_none rfl) rfl rfl (ex_por_f rfl rfl hg28 rfl) (oM rfl (ops_nil (at_meet _ ⟨rfl, HM⟩ (Sub.of rfl)))))
  ·rintro _ w31 ⟨rfl, HM⟩
   refine at_then (run_cond (b := (((!t11) || (!t12)) || (!t13))) rfl (fun hb32 => ?_) (fun hb32 => ?_))
   ·replace H := cond_t hb32 H
    refine run_seq (run_region rfl (oM rfl (ops_nil (at_then (run_ret (at_block_ret (at_then_ret ?_)))))))
    replace HM := HM.frd 0 rfl
    cases H
    exact at_ret1 rfl rfl ⟨_, rfl, rfl, HM⟩
   ·replace H := cond_f hb32 H
    refine run_seq ?_
    obtain ⟨t14, h33, H⟩ := bind_some H
    refine run_region rfl (oy rfl (ex_fieldAddr (off' := 0) rfl rfl U66 rfl tsz58 rfl) (oy rfl (ex_load1 rfl rfl U58 rfl ((HM.box_at 0 rfl) 0 _ rfl)) (oz rfl (does_callk rfl callok67 rfl (impl_isRising.calls (x0 := x0.fKeys) (HM.rd hp0_0) h33)) ?_)))
    rintro _ w34 ⟨rfl, hn⟩
    replace HM := HM.callN hn rfl
    refine oy rfl (ex_not rfl rfl) (oM rfl (ops_nil (at_then (run_cond (b := !t14) rfl (fun hb35 => ?_) (fun hb35 => ?_)))))
    ·replace H := cond_t hb35 H
     refine run_seq (run_region rfl (oM rfl (ops_nil (at_then (run_ret (at_block_ret (at_then_ret ?_)))))))
     replace HM := HM.frd 0 rfl
     cases H
     exact at_ret1 rfl rfl ⟨_, rfl, rfl, HM⟩
    ·replace H := cond_f hb35 H
     refine run_skip (at_block (at_then (run_seq (run_region rfl (oM rfl (ops_nil (at_then (run_ret ?_))))))))
     replace HM := HM.frd 0 rfl
     cases H
     exact at_ret1 rfl rfl ⟨_, rfl, rfl, HM⟩

def cmp_isNaN_int64.f (k : Nat) (x0 : Int) : Option Bool := some (x0 != x0)
theorem cmp_isNaN_int64.calls {k : Nat} {x0 : Int}  {w : World}  {r : Bool} (H : cmp_isNaN_int64.f k x0 = some r) :
  Calls Tryz.prog 103 ([nI x0] : List Value).toArray w (fun e w_ => ∃ v, e = .returned v ∧ v = (.bool r) ∧ Mem w [] w_ []) := by
 have HM := Mem.start w
 refine calls_run (N := 6) Tryz.func103 rfl rfl rfl rfl ?_
 unfold cmp_isNaN_int64.f at H
 refine run_seq (run_region rfl (oM rfl (ops_nil (at_then (run_seq (run_region rfl (oM rfl (oM rfl (oy rfl (ex_neq rfl rfl rfl) (oM rfl (ops_nil (at_then ?_))))))))))))
 refine run_ret ?_
 cases H
 exact at_ret1 rfl rfl ⟨_, rfl, rfl, HM⟩

def cmp_Compare_int64.f (k : Nat) (x0 : Int) (x1 : Int) : Option Int := ((cmp_isNaN_int64.f k x0).bind fun t10 => ((cmp_isNaN_int64.f k x1).bind fun t11 => (bif t10 then (bif t11 then some 0 else some (-1)) else (bif t11 then some 1 else (bif (decide (x0 < x1)) then some (-1) else (bif (decide (x1 < x0)) then some 1 else some 0))))))
theorem cmp_Compare_int64.calls {k : Nat} {x0 : Int} {x1 : Int}  {w : World}  {r : Int} (H : cmp_Compare_int64.f k x0 x1 = some r) :
  Calls Tryz.prog 69 ([nI x0, nI x1] : List Value).toArray w (fun e w_ => ∃ v, e = .returned v ∧ v = (nI r) ∧ Mem w [] w_ []) := by
 have HM := Mem.start w
 refine calls_run (N := 20) Tryz.func69 rfl rfl rfl rfl ?_
 unfold cmp_Compare_int64.f at H
 refine run_seq (run_region rfl (oM rfl (ops_nil (at_then (run_seq ?_)))))
 obtain ⟨t10, h12, H⟩ := bind_some H
 refine run_region rfl (oM rfl (oz rfl (does_callk rfl callok103 rfl (cmp_isNaN_int64.calls (x0 := x0) h12)) ?_))
 rintro _ w13 ⟨rfl, hn⟩
 replace HM := HM.callN hn rfl
 refine oM rfl (ops_nil (at_then (run_seq ?_)))
 obtain ⟨t11, h14, H⟩ := bind_some H
 refine run_region rfl (oM rfl (oz rfl (does_callk rfl callok103 rfl (cmp_isNaN_int64.calls (x0 := x1) h14)) ?_))
 rintro _ w15 ⟨rfl, hn⟩
 replace HM := HM.callN hn rfl
 refine oM rfl (ops_nil (at_then (run_seq (run_seq (run_region rfl (oM rfl (ops_nil (at_then (run_cond (b := t10) rfl (fun hb16 => ?_) (fun hb16 => ?_))))))))))
 ·replace H := cond_t hb16 H
  refine run_seq (run_seq (run_region rfl (oM rfl (ops_nil (at_then (run_cond (b := t11) rfl (fun hb17 => ?_) (fun hb17 => ?_)))))))
  ·replace H := cond_t hb17 H
   refine run_seq (run_region rfl (oM rfl (ops_nil (at_then (run_ret (at_then_ret (at_then_ret ?_)))))))
   cases H
   exact at_ret1 rfl rfl ⟨_, rfl, rfl, HM⟩
  ·replace H := cond_f hb17 H
   refine run_skip (at_then (run_seq (run_region rfl (oM rfl (ops_nil (at_then (run_ret (at_then_ret ?_))))))))
   cases H
   exact at_ret1 rfl rfl ⟨_, rfl, rfl, HM⟩
 ·replace H := cond_f hb16 H
  refine run_skip (at_then (run_seq (run_seq (run_region rfl (oM rfl (ops_nil (at_then (run_cond (b := t11) rfl (fun hb18 => ?_) (fun hb18 => ?_)))))))))
  ·replace H := cond_t hb18 H
   refine run_seq (run_region rfl (oM rfl (ops_nil (at_then (run_ret (at_then_ret ?_))))))
   cases H
   exact at_ret1 rfl rfl ⟨_, rfl, rfl, HM⟩
  ·replace H := cond_f hb18 H
   refine run_skip (at_then (run_seq (run_seq (run_region rfl (oM rfl (oM rfl (oy rfl (ex_lss rfl rfl rfl) (ops_nil (at_then (run_cond (b := (decide (x0 < x1))) rfl (fun hb19 => ?_) (fun hb19 => ?_)))))))))))
   ·replace H := cond_t hb19 H
    refine run_seq (run_region rfl (oM rfl (ops_nil (at_then (run_ret (at_then_ret ?_))))))
    cases H
    exact at_ret1 rfl rfl ⟨_, rfl, rfl, HM⟩
   ·replace H := cond_f hb19 H
    refine run_skip (at_then (run_seq (run_seq (run_region rfl (oM rfl (oM rfl (oy rfl (ex_gtr rfl rfl rfl) (ops_nil (at_then (run_cond (b := (decide (x1 < x0))) rfl (fun hb20 => ?_) (fun hb20 => ?_)))))))))))
    ·replace H := cond_t hb20 H
     refine run_seq (run_region rfl (oM rfl (ops_nil (at_then (run_ret (at_then_ret ?_))))))
     cases H
     exact at_ret1 rfl rfl ⟨_, rfl, rfl, HM⟩
    ·replace H := cond_f hb20 H
     refine run_skip (at_then (run_seq (run_region rfl (oM rfl (ops_nil (at_then (run_ret ?_)))))))
     cases H
     exact at_ret1 rfl rfl ⟨_, rfl, rfl, HM⟩

def cmp_Or_int.l0 (x0 : List Int) : Nat → Int → Option (Int ⊕ Unit)
 | 0, _ => none
 | k + 1, a10 => (bif (decide (a10 < (x0.length : Int))) then (chk (idxOk a10 x0.length) (bif ((gt x0 a10) != 0) then some (.inl (gt x0 a10)) else cmp_Or_int.l0 x0 k (wrap64 (a10 + 1)))) else some (.inr ()))
def cmp_Or_int.f (k : Nat) (x0 : List Int) : Option Int := ((cmp_Or_int.l0 x0 k 0).bind fun o11 => thn o11 (fun r => some r) (fun _ => some 0))
theorem cmp_Or_int.calls {k : Nat} {x0 : List Int} {p0 : Value} {w : World} (hp0 : RdS kInt w p0 x0) {r : Int} (H : cmp_Or_int.f k x0 = some r) :
  Calls Tryz.prog 68 ([p0] : List Value).toArray w (fun e w_ => ∃ v, e = .returned v ∧ v = (nI r) ∧ Mem w [] w_ []) := by
 have HM := Mem.start w
 refine calls_run (N := 18) Tryz.func68 rfl rfl rfl rfl ?_
 unfold cmp_Or_int.f at H
 refine run_seq (run_region rfl (oM rfl (ops_nil (at_then (run_seq (run_region rfl (oM rfl (ops_nil (at_then ?_)))))))))
 obtain ⟨o11, ho12, H⟩ := bind_some H
 refine run_mid (fun ρ_ w_ => Sum.inr () = o11 ∧ ρ_ = [(3, nI 0)] ∧ Mem w [] w_ []) ?_ ?_
 ·refine run_seq (run_region rfl (oM rfl (oy rfl (ex_len (d := kInt) (xs := x0) rfl rfl U136 hp0) (oM rfl (ops_nil (at_then (run_block ?_)))))))
  refine run_loop (fun k_ ρ_ w_ => ∃ a10 : Int, cmp_Or_int.l0 x0 k_ a10 = some o11 ∧ ρ_ = [(3, nI 0), (6, p0), (7, nI (x0.length : Int)), (8, nI a10)] ∧ Mem w [] w_ []) k ⟨_, ho12, rfl, HM⟩ (Sub.of rfl) ?_
  clear HM ho12
  rintro k13 _ w14 ⟨a10, ho12, rfl, HM⟩
  obtain _ | k13 := k13
  ·exact nomatch ((cmp_Or_int.l0.eq_1 x0 a10).symm.trans ho12)
  replace ho12 := (cmp_Or_int.l0.eq_2 ..).symm.trans ho12
  refine run_seq (run_region rfl (oy rfl (ex_lss rfl rfl rfl) (ops_nil (at_then (run_seq (run_cond (b := (decide (a10 < (x0.length : Int)))) rfl (fun hb15 => ?_) (fun hb15 => ?_)))))))
  ·replace ho12 := cond_t hb15 ho12
   refine run_skip (at_then (run_seq (run_block (run_seq ?_))))
   obtain ⟨e16, ho12⟩ := chk_some ho12
   refine run_region rfl ?_
   have hc17 : CellsAt _ (sb p0) (so p0 + (a10).toNat * 1) [(nI (gt x0 a10))] := rd_plain hp0 e16
   refine oy rfl (ex_indexAddr (d := kInt) rfl rfl rfl U136 tsz3 hp0 (idx_lo e16) (idx_hi e16)) (oy rfl (ex_load1 rfl rfl U3 rfl ((HM.at_ hc17) 0 _ rfl)) (oM rfl (ops_nil (at_then (run_seq (run_region rfl (oM rfl (oM rfl (oy rfl (ex_neq rfl rfl rfl) (ops_nil (at_then (run_cond (b := ((gt x0 a10) != 0)) rfl (fun hb18 => ?_) (fun hb18 => ?_)))))))))))))
   ·replace ho12 := cond_t hb18 ho12
    refine run_seq (run_region rfl (oM rfl (oM rfl (ops_nil (at_then (run_ret (at_block_ret (at_then_ret (at_then_ret (at_block_ret ?_))))))))))
    refine at_then_ret ?_
    cases ho12
    have hT := thn_inl H
    cases hT
    exact at_ret1 rfl rfl ⟨_, rfl, rfl, HM⟩
   ·replace ho12 := cond_f hb18 ho12
    exact run_skip (at_block (at_then (run_region rfl (oy rfl (ex_add rfl rfl rfl) (oM rfl (ops_nil (at_again k13 (Nat.lt_succ_self _) ⟨_, ho12, rfl, HM⟩ (Sub.of rfl))))))))
  ·replace ho12 := cond_f hb15 ho12
   exact run_exit (at_then_exit (at_then_exit (at_block_exit (at_mid ⟨(sj ho12), rfl, HM⟩ (Sub.of rfl)))))
 ·rintro _ w19 ⟨rfl, rfl, HM⟩
  replace H := (thn_inr H)
  refine run_seq (run_region rfl (oM rfl (oM rfl (ops_nil (at_then (run_ret ?_))))))
  cases H
  exact at_ret1 rfl rfl ⟨_, rfl, rfl, HM⟩

def impl_compareRefs.f (k : Nat) (x0 : Ref) (x1 : Ref) : Option Int := ((cmp_Compare_int64.f k x0.fTx x1.fTx).bind fun t10 => ((cmp_Compare_int64.f k x0.fAt x1.fAt).bind fun t11 => ((cmp_Or_int.f k ([t10, t11] : List Int)).bind fun t12 => some t12)))
theorem impl_compareRefs.calls {k : Nat} {x0 : Ref} {x1 : Ref}  {w : World}  {r : Int} (H : impl_compareRefs.f k x0 x1 = some r) :
  Calls Tryz.prog 33 ([.agg #[(nI x0.fTx), (nI x0.fAt)], .agg #[(nI x1.fTx), (nI x1.fAt)]] : List Value).toArray w (fun e w_ => ∃ v, e = .returned v ∧ v = (nI r) ∧ Mem w [] w_ []) := by
 have HM := Mem.start w
 refine calls_run (N := 17) Tryz.func33 rfl rfl rfl rfl ?_
 unfold impl_compareRefs.f at H
 refine run_seq (run_region rfl (oz rfl (does_box (cs := [nI x0.fTx, nI x0.fAt]) rfl rfl rfl HM) ?_))
 rintro _ w13 ⟨b14, rfl, HM⟩
 refine oz rfl (does_box (cs := [nI x1.fTx, nI x1.fAt]) rfl rfl rfl HM) ?_
 rintro _ w15 ⟨b16, rfl, HM⟩
 refine oM rfl (ops_nil (at_then (run_seq ?_)))
 obtain ⟨t10, h17, H⟩ := bind_some H
 obtain ⟨t11, h18, H⟩ := bind_some H
 obtain ⟨t12, h19, H⟩ := bind_some H
 refine run_drawf (fun w_ => Mem w [] w_ [box b16 38 [nI x1.fTx, nI x1.fAt], box b14 38 [nI x0.fTx, nI x0.fAt]]) [(0, true), (1, true), (2, true), (3, true), (5, true), (6, true), (7, true), (8, true), (4, false), (9, false), (10, false), (11, false), (12, true)] mixed rfl rfl (by kernel_rfl) ?_
 replace HM := HM.grow (fr_drew _)
 have hS := HM.sufN 0 rfl
 refine dp rfl rfl rfl rfl (ex_fieldAddr (off' := 0) rfl rfl U38 rfl tsz2 rfl) hS (drwp_take rfl (guard_none rfl) rfl rfl (fun w_ hS_ => (ex_load1 rfl rfl U2 rfl ((hS_.box_at 1 rfl) 0 _ rfl))) hS (dp rfl rfl rfl rfl (ex_fieldAddr (off' := 0) rfl rfl U38 rfl tsz2 rfl) hS (drwp_take rfl (guard_none rfl) rfl rfl (fun w_ hS_ => (ex_load1 rfl rfl U2 rfl ((hS_.box_at 0 rfl) 0 _ rfl))) hS (dp rfl rfl rfl rfl (ex_fieldAddr (off' := 1) rfl rfl U38 rfl tsz2 rfl) hS (drwp_take rfl (guard_none rfl) rfl rfl (fun w_ hS_ => (ex_load1 rfl rfl U2 rfl ((hS_.box_at 1 rfl) 1 _ rfl))) hS (dp rfl rfl rfl rfl (ex_fieldAddr (off' := 1) rfl rfl U38 rfl tsz2 rfl) hS (drwp_take rfl (guard_none rfl) rfl rfl (fun w_ hS_ => (ex_load1 rfl rfl U2 rfl ((hS_.box_at 0 rfl) 1 _ rfl))) hS (drwp_one rfl (guard_none rfl) rfl rfl (does_callk rfl callok69 rfl (cmp_Compare_int64.calls (x0 := x0.fTx) (x1 := x1.fTx) h17)) ?_))))))))
 rintro _ w20 ⟨rfl, hn⟩
 replace HM := HM.callN hn rfl
 have hS := HM.sufN 0 rfl
 refine ⟨hS, (drwp_one rfl (guard_none rfl) rfl rfl (does_callk rfl callok69 rfl (cmp_Compare_int64.calls (x0 := x0.fAt) (x1 := x1.fAt) h18)) ?_)⟩
 rintro _ w21 ⟨rfl, hn⟩
 replace HM := HM.callN hn rfl
 have hS := HM.sufN 0 rfl
 refine ⟨hS, (drwp_one rfl (guard_none rfl) rfl rfl (does_lit (e := 3) (cs := [nI t10, nI t11]) (xs := ([t10, t11] : List Int)) kInt rfl rfl (fun _ => by kernel_rfl) rfl rfl (fun _ _ h => by have h' : _ = [] := h; subst h'; exact (Elems.cons (d := kInt) (x := t10) (f := []) ⟨rfl, rfl⟩ (Elems.cons (d := kInt) (x := t11) (f := []) ⟨rfl, rfl⟩ .nil))) HM.emp) ?_)⟩
 rintro v22 w23 HM
 have hS := HM.sufN 1 rfl
 refine ⟨hS, (drwp_one rfl (guard_none rfl) rfl rfl (does_callk rfl callok68 rfl (cmp_Or_int.calls (x0 := ([t10, t11] : List Int)) (HM.own_rd 0 rfl) h19)) ?_)⟩
 rintro _ w24 ⟨rfl, hn⟩
 replace HM := HM.callN hn rfl
 have hS := HM.sufN 1 rfl
 refine ⟨hS, (dp rfl rfl rfl rfl (ex_assign rfl rfl) hS (drwp_done (at_then (run_ret ?_))))⟩
 replace HM := ((HM.frd 0 rfl).frd 0 rfl).frd 0 rfl
 cases H
 exact at_ret1 rfl rfl ⟨_, rfl, rfl, HM⟩

def impl_CoinsFault.l0 (x0 : List Coin) : Nat → Int → Option (Int ⊕ Unit)
 | 0, _ => none
 | k + 1, a10 => (bif (decide (a10 < (x0.length : Int))) then (chk (idxOk a10 x0.length) ((impl_isRef.f k ((gt x0 a10).fRef)).bind fun t11 => ((bif (!(!t11)) then impl_isHeight.f k ((gt x0 a10).fHeight) else some default).bind fun t12 => ((bif (!((!t11) || (!t12))) then impl_within.f k ((gt x0 a10).fOut.fValue) 1 1000000 else some default).bind fun t13 => (bif (((!t11) || (!t12)) || (!t13)) then some (.inl 3) else ((impl_RuleFault.f k ((gt x0 a10).fOut.fRule)).bind fun t14 => (bif (t14 != 0) then some (.inl t14) else (chk (!(decide (0 < a10)) || (idxOk (wrap64 (a10 - 1)) x0.length)) ((bif (decide (0 < a10)) then impl_compareRefs.f k ((gt x0 (wrap64 (a10 - 1))).fRef) ((gt x0 a10).fRef) else some default).bind fun t15 => (bif ((decide (0 < a10)) && (decide (0 ≤ t15))) then some (.inl 1) else impl_CoinsFault.l0 x0 k (wrap64 (a10 + 1)))))))))))) else some (.inr ()))
def impl_CoinsFault.f (k : Nat) (x0 : List Coin) : Option Int := (bif (decide (40 < (x0.length : Int))) then some 2 else ((impl_CoinsFault.l0 x0 k 0).bind fun o16 => thn o16 (fun r => some r) (fun _ => some 0)))
theorem impl_CoinsFault.calls {k : Nat} {x0 : List Coin} {p0 : Value} {w : World} (hp0 : RdS kCoin w p0 x0) {r : Int} (H : impl_CoinsFault.f k x0 = some r) :
  Calls Tryz.prog 12 ([p0] : List Value).toArray w (fun e w_ => ∃ v, e = .returned v ∧ v = (nI r) ∧ Mem w [] w_ []) := by
 have HM := Mem.start w
 refine calls_run (N := 55) Tryz.func12 rfl rfl rfl rfl ?_
 unfold impl_CoinsFault.f at H
 refine run_seq (run_region rfl (oM rfl (ops_nil (at_then (run_seq (run_seq (run_region rfl (oM rfl (oy rfl (ex_len (d := kCoin) (xs := x0) rfl rfl U24 hp0) (oy rfl (ex_gtr rfl rfl rfl) (ops_nil (at_then ?_))))))))))))
 refine run_cond (b := (decide (40 < (x0.length : Int)))) rfl (fun hb17 => ?_) (fun hb17 => ?_)
 ·replace H := cond_t hb17 H
  refine run_seq (run_region rfl (oM rfl (ops_nil (at_then (run_ret (at_then_ret ?_))))))
  cases H
  exact at_ret1 rfl rfl ⟨_, rfl, rfl, HM⟩
 ·replace H := cond_f hb17 H
  refine run_skip (at_then ?_)
  obtain ⟨o16, ho18, H⟩ := bind_some H
  refine run_mid (fun ρ_ w_ => Sum.inr () = o16 ∧ ρ_ = [] ∧ Mem w [] w_ []) ?_ ?_
  ·refine run_seq (run_region rfl (oM rfl (oy rfl (ex_len (d := kCoin) (xs := x0) rfl rfl U24 hp0) (oM rfl (ops_nil (at_then (run_block ?_)))))))
   refine run_loop (fun k_ ρ_ w_ => ∃ a10 : Int, impl_CoinsFault.l0 x0 k_ a10 = some o16 ∧ ρ_ = [(0, p0), (9, p0), (10, nI (x0.length : Int)), (11, nI a10)] ∧ Mem w [] w_ []) k ⟨_, ho18, rfl, HM⟩ (Sub.of rfl) ?_
   clear HM ho18
   rintro k19 _ w20 ⟨a10, ho18, rfl, HM⟩
   obtain _ | k19 := k19
   ·exact nomatch ((impl_CoinsFault.l0.eq_1 x0 a10).symm.trans ho18)
   replace ho18 := (impl_CoinsFault.l0.eq_2 ..).symm.trans ho18
   refine run_seq (run_region rfl (oy rfl (ex_lss rfl rfl rfl) (ops_nil (at_then (run_seq (run_cond (b := (decide (a10 < (x0.length : Int)))) rfl (fun hb21 => ?_) (fun hb21 => ?_)))))))
   ·replace ho18 := cond_t hb21 ho18
    refine run_skip (at_then (run_seq (run_block (run_seq ?_))))
    obtain ⟨e22, ho18⟩ := chk_some ho18
    refine run_region rfl (oM rfl ?_)
    obtain ⟨kv23, hc24, hk25⟩ := rd_with1 hp0 e22
    refine oy rfl (ex_indexAddr (d := kCoin) rfl rfl rfl U24 tsz70 hp0 (idx_lo e22) (idx_hi e22)) (oy rfl (ldN rfl rfl U70 rfl tsz70 ((HM.at_ hc24).subL 0 8 rfl) rfl) (oz rfl (does_alloc (cs := [nI 0, nI 0, nI 0, .slice none 0 0, nI 0, nI 0, nI 0, .bool false]) rfl tz70 rfl HM) ?_))
    rintro _ w26 ⟨b27, rfl, HM⟩
    refine oM rfl (odS rfl rfl rfl (does_store (vs := [nI ((gt x0 a10).fRef.fTx), nI ((gt x0 a10).fRef.fAt), nI ((gt x0 a10).fOut.fValue), kv23, nI ((gt x0 a10).fOut.fRule.fNeed), nI ((gt x0 a10).fOut.fRule.fAfter), nI ((gt x0 a10).fHeight), .bool ((gt x0 a10).fMined)]) (cs' := [nI ((gt x0 a10).fRef.fTx), nI ((gt x0 a10).fRef.fAt), nI ((gt x0 a10).fOut.fValue), kv23, nI ((gt x0 a10).fOut.fRule.fNeed), nI ((gt x0 a10).fOut.fRule.fAfter), nI ((gt x0 a10).fHeight), .bool ((gt x0 a10).fMined)]) rfl rfl rfl rfl tsz70 (Ones.int (Ones.int (Ones.int (Ones.rd hk25 (Ones.int (Ones.int (Ones.int (Ones.bool Ones.nil)))))))) rfl rfl HM) ?_)
    rintro w28 HM
    refine ops_nil (at_then (run_seq (run_seq ?_)))
    obtain ⟨t11, h29, ho18⟩ := bind_some ho18
    obtain ⟨t12, h30, ho18⟩ := bind_some ho18
    obtain ⟨t13, h31, ho18⟩ := bind_some ho18
    refine run_meet (fun ρ_ w_ => ρ_ = [(0, p0), (9, p0), (10, nI (x0.length : Int)), (11, nI a10), (4, pA b27 0), (3, nI a10), (32, .bool (((!t11) || (!t12)) || (!t13)))] ∧ Mem w [] w_ [box b27 70 [nI ((gt x0 a10).fRef.fTx), nI ((gt x0 a10).fRef.fAt), nI ((gt x0 a10).fOut.fValue), kv23, nI ((gt x0 a10).fOut.fRule.fNeed), nI ((gt x0 a10).fOut.fRule.fAfter), nI ((gt x0 a10).fHeight), .bool ((gt x0 a10).fMined)]]) ?_ ?_
    ·refine run_region rfl (oy rfl (ex_fieldAddr (off' := 0) rfl rfl U70 rfl tsz38 rfl) (oy rfl (ldN rfl rfl U38 rfl tsz38 ((HM.box_at 0 rfl).subL 0 2 rfl) rfl) (oz rfl (does_callk rfl callok29 rfl (impl_isRef.calls (x0 := (gt x0 a10).fRef) h29)) ?_)))
     rintro _ w32 ⟨rfl, hn⟩
     replace HM := HM.callN hn rfl
     refine oy rfl (ex_not rfl rfl) (oM rfl ?_)
     refine bool_cases (!t11) (fun hg33 => ?_) (fun hg33 => ?_)
     ·refine gf rfl hg33 (gf rfl hg33 (gf rfl hg33 (gf rfl hg33 ?_)))
      have hg34 : ((!t11) || (!t12)) = true := by simp only [hg33, Bool.and_true, Bool.true_and, Bool.and_false, Bool.false_and, Bool.or_true, Bool.true_or, Bool.or_false, Bool.false_or, Bool.not_true, Bool.not_false, Bool.not_not]
      refine ops_ex (v := .bool ((!t11) || (!t12))) rfl (guard_none rfl) rfl rfl (ex_por_t rfl rfl hg33) (oM rfl (gf rfl hg34 (gf rfl hg34 (gf rfl hg34 (gf rfl hg34 (gf rfl hg34 ?_))))))
      have hg35 : (((!t11) || (!t12)) || (!t13)) = true := by simp only [hg34, Bool.and_true, Bool.true_and, Bool.and_false, Bool.false_and, Bool.or_true, Bool.true_or, Bool.or_false, Bool.false_or, Bool.not_true, Bool.not_false, Bool.not_not]
      exact ops_ex (v := .bool (((!t11) || (!t12)) || (!t13))) rfl (guard_none rfl) rfl rfl (ex_por_t rfl rfl hg34) (ops_nil (at_meet _ ⟨rfl, HM⟩ (Sub.of rfl)))
     ·refine gn rfl hg33 (ex_fieldAddr (off' := 6) rfl rfl U70 rfl tsz2 rfl) (gn rfl hg33 (ex_load1 rfl rfl U2 rfl ((HM.box_at 0 rfl) 6 _ rfl)) (ops_does rfl (guard_on rfl rfl rfl hg33) rfl rfl (does_callk rfl callok30 rfl (impl_isHeight.calls (x0 := (gt x0 a10).fHeight) (cond_t (not_mk hg33) h30))) ?_))
      rintro _ w36 ⟨rfl, hn⟩
      replace HM := HM.callN hn rfl
      refine gn rfl hg33 (ex_not rfl rfl) (ops_ex (v := .bool ((!t11) || (!t12))) rfl (guard_none rfl) rfl rfl (ex_por_f rfl rfl hg33 rfl) (oM rfl ?_))
      refine bool_cases ((!t11) || (!t12)) (fun hg37 => ?_) (fun hg37 => ?_)
      ·refine gf rfl hg37 (gf rfl hg37 (gf rfl hg37 (gf rfl hg37 (gf rfl hg37 ?_))))
       have hg38 : (((!t11) || (!t12)) || (!t13)) = true := by simp only [hg37, Bool.and_true, Bool.true_and, Bool.and_false, Bool.false_and, Bool.or_true, Bool.true_or, Bool.or_false, Bool.false_or, Bool.not_true, Bool.not_false, Bool.not_not]
       exact ops_ex (v := .bool (((!t11) || (!t12)) || (!t13))) rfl (guard_none rfl) rfl rfl (ex_por_t rfl rfl hg37) (ops_nil (at_meet _ ⟨rfl, HM⟩ (Sub.of rfl)))
      ·refine gn rfl hg37 (ex_fieldAddr (off' := 2) rfl rfl U70 rfl tsz68 rfl) (gn rfl hg37 (ex_fieldAddr (off' := 2) rfl rfl U68 rfl tsz2 rfl) (gn rfl hg37 (ex_load1 rfl rfl U2 rfl ((HM.box_at 0 rfl) 2 _ rfl)) (ops_does rfl (guard_on rfl rfl rfl hg37) rfl rfl (does_callk rfl callok31 rfl (impl_within.calls (x0 := (gt x0 a10).fOut.fValue) (x1 := 1) (x2 := 1000000) (cond_t (not_mk hg37) h31))) ?_)))
       rintro _ w39 ⟨rfl, hn⟩
       replace HM := HM.callN hn rfl
       exact gn rfl hg37 (ex_not rfl rfl) (ops_ex (v := .bool (((!t11) || (!t12)) || (!t13))) rfl (guard_none rfl) rfl rfl (ex_por_f rfl rfl hg37 rfl) (ops_nil (at_meet _ ⟨rfl, HM⟩ (Sub.of rfl))))
    ·rintro _ w40 ⟨rfl, HM⟩
     refine at_then (run_cond (b := (((!t11) || (!t12)) || (!t13))) rfl (fun hb41 => ?_) (fun hb41 => ?_))
     ·replace ho18 := cond_t hb41 ho18
      refine run_seq (run_region rfl (oM rfl (ops_nil (at_then (run_ret (at_then_ret (at_block_ret (at_then_ret (at_then_ret (at_block_ret ?_))))))))))
      refine at_then_ret ?_
      replace HM := HM.frd 0 rfl
      cases ho18
      have hT := thn_inl H
      cases hT
      exact at_ret1 rfl rfl ⟨_, rfl, rfl, HM⟩
     ·replace ho18 := cond_f hb41 ho18
      refine run_skip (at_then (run_seq (run_seq ?_)))
      obtain ⟨t14, h42, ho18⟩ := bind_some ho18
      refine run_region rfl (oy rfl (ex_fieldAddr (off' := 2) rfl rfl U70 rfl tsz68 rfl) (oy rfl (ex_fieldAddr (off' := 3) rfl rfl U68 rfl tsz66 rfl) (oy rfl (ldN rfl rfl U66 rfl tsz66 ((HM.box_at 0 rfl).subL 3 3 rfl) rfl) (oz rfl (does_callk rfl callok32 rfl (impl_RuleFault.calls (x0 := (gt x0 a10).fOut.fRule) (HM.rd hk25) h42)) ?_))))
      rintro _ w43 ⟨rfl, hn⟩
      replace HM := HM.callN hn rfl
      refine oM rfl (ops_nil (at_then (run_seq (run_region rfl (oM rfl (oy rfl (ex_neq rfl rfl rfl) (ops_nil (at_then (run_cond (b := (t14 != 0)) rfl (fun hb44 => ?_) (fun hb44 => ?_))))))))))
      ·replace ho18 := cond_t hb44 ho18
       refine run_seq (run_region rfl (oM rfl (oM rfl (ops_nil (at_then (run_ret (at_then_ret (at_block_ret (at_then_ret (at_then_ret ?_))))))))))
       refine at_block_ret (at_then_ret ?_)
       replace HM := HM.frd 0 rfl
       cases ho18
       have hT := thn_inl H
       cases hT
       exact at_ret1 rfl rfl ⟨_, rfl, rfl, HM⟩
      ·replace ho18 := cond_f hb44 ho18
       refine run_skip (at_then (run_seq ?_))
       obtain ⟨e45, ho18⟩ := chk_some ho18
       obtain ⟨t15, h46, ho18⟩ := bind_some ho18
       refine run_meet (fun ρ_ w_ => ρ_ = [(0, p0), (9, p0), (10, nI (x0.length : Int)), (11, nI a10), (53, .bool ((decide (0 < a10)) && (decide (0 ≤ t15))))] ∧ Mem w [] w_ []) ?_ ?_
       ·refine run_drawf (fun w_ => Mem w [] w_ [box b27 70 [nI ((gt x0 a10).fRef.fTx), nI ((gt x0 a10).fRef.fAt), nI ((gt x0 a10).fOut.fValue), kv23, nI ((gt x0 a10).fOut.fRule.fNeed), nI ((gt x0 a10).fOut.fRule.fAfter), nI ((gt x0 a10).fHeight), .bool ((gt x0 a10).fMined)]]) [(0, true), (1, true), (2, true), (3, true), (4, true), (5, true), (6, true), (7, true), (8, true), (9, true), (10, true), (11, false), (12, true), (13, true)] mixed rfl rfl (by kernel_rfl) ?_
        replace HM := HM.grow (fr_drew _)
        have hS := HM.sufN 0 rfl
        refine dp rfl rfl rfl rfl (ex_move rfl rfl) hS (dp rfl rfl rfl rfl (ex_gtr rfl rfl rfl) hS (dp rfl rfl rfl rfl (ex_move rfl rfl) hS ?_))
        refine bool_cases (decide (0 < a10)) (fun hg47 => ?_) (fun hg47 => ?_)
        ·refine drwp_take rfl (guard_on rfl rfl rfl hg47) rfl rfl (fun w_ hS_ => (ex_move rfl rfl)) hS (drwp_take rfl (guard_on rfl rfl rfl hg47) rfl rfl (fun w_ hS_ => (ex_move rfl rfl)) hS (drwp_take rfl (guard_on rfl rfl rfl hg47) rfl rfl (fun w_ hS_ => (ex_sub rfl rfl rfl)) hS ?_))
         obtain ⟨kv48, hc49, hk50⟩ := rd_with1 hp0 (or_t e45 hg47)
         refine drwp_take rfl (guard_on rfl rfl rfl hg47) rfl rfl (fun w_ hS_ => (ex_indexAddr (d := kCoin) rfl rfl rfl U24 tsz70 hp0 (idx_lo (or_t e45 hg47)) (idx_hi (or_t e45 hg47)))) hS (drwp_take rfl (guard_on rfl rfl rfl hg47) rfl rfl (fun w_ hS_ => (ex_fieldAddr (off' := so p0 + (wrap64 (a10 - 1)).toNat * 8) rfl rfl U70 rfl tsz38 rfl)) hS (drwp_take rfl (guard_on rfl rfl rfl hg47) rfl rfl (fun w_ hS_ => (ldN rfl rfl U38 rfl tsz38 ((hS_.at_ hc49).subL 0 2 rfl) rfl)) hS (drwp_take rfl (guard_on rfl rfl rfl hg47) rfl rfl (fun w_ hS_ => (ex_fieldAddr (off' := 0) rfl rfl U70 rfl tsz38 rfl)) hS (drwp_take rfl (guard_on rfl rfl rfl hg47) rfl rfl (fun w_ hS_ => (ldN rfl rfl U38 rfl tsz38 ((hS_.box_at 0 rfl).subL 0 2 rfl) rfl)) hS (drwp_one rfl (guard_on rfl rfl rfl hg47) rfl rfl (does_callk rfl callok33 rfl (impl_compareRefs.calls (x0 := (gt x0 (wrap64 (a10 - 1))).fRef) (x1 := (gt x0 a10).fRef) (cond_t hg47 h46))) ?_)))))
         rintro _ w51 ⟨rfl, hn⟩
         replace HM := HM.callN hn rfl
         have hS := HM.sufN 0 rfl
         refine ⟨hS, (drwp_take rfl (guard_on rfl rfl rfl hg47) rfl rfl (fun w_ hS_ => (ex_geq rfl rfl rfl)) hS (drwp_take (v := .bool ((decide (0 < a10)) && (decide (0 ≤ t15)))) rfl (guard_none rfl) rfl rfl (fun w_ hS_ => (ex_pand_t rfl rfl hg47 rfl)) hS (drwp_done ?_)))⟩
         replace HM := HM.frd 0 rfl
         exact at_meet _ ⟨rfl, HM⟩ (Sub.of rfl)
        ·refine drwp_off rfl (guard_off rfl rfl rfl hg47) rfl rfl hS (drwp_off rfl (guard_off rfl rfl rfl hg47) rfl rfl hS (drwp_off rfl (guard_off rfl rfl rfl hg47) rfl rfl hS (drwp_off rfl (guard_off rfl rfl rfl hg47) rfl rfl hS (drwp_off rfl (guard_off rfl rfl rfl hg47) rfl rfl hS (drwp_off rfl (guard_off rfl rfl rfl hg47) rfl rfl hS (drwp_off rfl (guard_off rfl rfl rfl hg47) rfl rfl hS (drwp_off rfl (guard_off rfl rfl rfl hg47) rfl rfl hS (drwp_off1 rfl (guard_off rfl rfl rfl hg47) rfl rfl ⟨hS, (drwp_off rfl (guard_off rfl rfl rfl hg47) rfl rfl hS ?_)⟩))))))))
         have hg52 : ((decide (0 < a10)) && (decide (0 ≤ t15))) = false := by simp only [hg47, Bool.and_true, Bool.true_and, Bool.and_false, Bool.false_and, Bool.or_true, Bool.true_or, Bool.or_false, Bool.false_or, Bool.not_true, Bool.not_false, Bool.not_not]
         refine drwp_take (v := .bool ((decide (0 < a10)) && (decide (0 ≤ t15)))) rfl (guard_none rfl) rfl rfl (fun w_ hS_ => (ex_pand_f rfl rfl hg47)) hS (drwp_done ?_)
         replace HM := HM.frd 0 rfl
         exact at_meet _ ⟨rfl, HM⟩ (Sub.of rfl)
       ·rintro _ w53 ⟨rfl, HM⟩
        refine at_then (run_cond (b := ((decide (0 < a10)) && (decide (0 ≤ t15)))) rfl (fun hb54 => ?_) (fun hb54 => ?_))
        ·replace ho18 := cond_t hb54 ho18
         refine run_seq (run_region rfl (oM rfl (ops_nil (at_then (run_ret (at_block_ret (at_then_ret (at_then_ret (at_block_ret (at_then_ret ?_))))))))))
         cases ho18
         have hT := thn_inl H
         cases hT
         exact at_ret1 rfl rfl ⟨_, rfl, rfl, HM⟩
        ·replace ho18 := cond_f hb54 ho18
         exact run_skip (at_block (at_then (run_region rfl (oy rfl (ex_add rfl rfl rfl) (oM rfl (ops_nil (at_again k19 (Nat.lt_succ_self _) ⟨_, ho18, rfl, HM⟩ (Sub.of rfl))))))))
   ·replace ho18 := cond_f hb21 ho18
    exact run_exit (at_then_exit (at_then_exit (at_block_exit (at_mid ⟨(sj ho18), rfl, HM⟩ Sub.nil))))
  ·rintro _ w55 ⟨rfl, rfl, HM⟩
   replace H := (thn_inr H)
   refine run_seq (run_region rfl (oM rfl (ops_nil (at_then (run_ret ?_)))))
   cases H
   exact at_ret1 rfl rfl ⟨_, rfl, rfl, HM⟩

def impl_TxFault_1.f (k : Nat) (x0 : Int) : Option Bool := some ((decide (x0 < 1)) || (decide (4 < x0)))
theorem impl_TxFault_1.calls {k : Nat} {x0 : Int}  {w : World}  {r : Bool} (H : impl_TxFault_1.f k x0 = some r) :
  Calls Tryz.prog 38 ([nI x0] : List Value).toArray w (fun e w_ => ∃ v, e = .returned v ∧ v = (.bool r) ∧ Mem w [] w_ []) := by
 have HM := Mem.start w
 refine calls_run (N := 9) Tryz.func38 rfl rfl rfl rfl ?_
 unfold impl_TxFault_1.f at H
 refine run_seq (run_region rfl (oM rfl (ops_nil (at_then (run_seq ?_)))))
 refine run_meet (fun ρ_ w_ => ρ_ = [(2, .bool ((decide (x0 < 1)) || (decide (4 < x0))))] ∧ Mem w [] w_ []) ?_ ?_
 ·refine run_region rfl (oM rfl (oy rfl (ex_lss rfl rfl rfl) (oM rfl ?_)))
  refine bool_cases (decide (x0 < 1)) (fun hg10 => ?_) (fun hg10 => ?_)
  ·refine gf rfl hg10 (gf rfl hg10 ?_)
   have hg11 : ((decide (x0 < 1)) || (decide (4 < x0))) = true := by simp only [hg10, Bool.and_true, Bool.true_and, Bool.and_false, Bool.false_and, Bool.or_true, Bool.true_or, Bool.or_false, Bool.false_or, Bool.not_true, Bool.not_false, Bool.not_not]
   exact ops_ex (v := .bool ((decide (x0 < 1)) || (decide (4 < x0)))) rfl (guard_none rfl) rfl rfl (ex_por_t rfl rfl hg10) (oM rfl (ops_nil (at_meet _ ⟨rfl, HM⟩ (Sub.of rfl))))
  ·exact gn rfl hg10 (ex_move rfl rfl) (gn rfl hg10 (ex_gtr rfl rfl rfl) (ops_ex (v := .bool ((decide (x0 < 1)) || (decide (4 < x0)))) rfl (guard_none rfl) rfl rfl (ex_por_f rfl rfl hg10 rfl) (oM rfl (ops_nil (at_meet _ ⟨rfl, HM⟩ (Sub.of rfl))))))
 ·rintro _ w12 ⟨rfl, HM⟩
  refine at_then (run_ret ?_)
  cases H
  exact at_ret1 rfl rfl ⟨_, rfl, rfl, HM⟩

def slices_Index_impl_Ref.l0 (x0 : List Ref) (x1 : Ref) : Nat → Int → Option (Int ⊕ Unit)
 | 0, _ => none
 | k + 1, a10 => (bif (decide (a10 < (x0.length : Int))) then (chk (idxOk a10 x0.length) (bif ((x1.fTx == ((gt x0 a10).fTx)) && (x1.fAt == ((gt x0 a10).fAt))) then some (.inl a10) else slices_Index_impl_Ref.l0 x0 x1 k (wrap64 (a10 + 1)))) else some (.inr ()))
def slices_Index_impl_Ref.f (k : Nat) (x0 : List Ref) (x1 : Ref) : Option Int := ((slices_Index_impl_Ref.l0 x0 x1 k 0).bind fun o11 => thn o11 (fun r => some r) (fun _ => some (-1)))
theorem slices_Index_impl_Ref.calls {k : Nat} {x0 : List Ref} {x1 : Ref} {p0 : Value} {w : World} (hp0 : RdS kRef w p0 x0) {r : Int} (H : slices_Index_impl_Ref.f k x0 x1 = some r) :
  Calls Tryz.prog 80 ([p0, .agg #[(nI x1.fTx), (nI x1.fAt)]] : List Value).toArray w (fun e w_ => ∃ v, e = .returned v ∧ v = (nI r) ∧ Mem w [] w_ []) := by
 have HM := Mem.start w
 refine calls_run (N := 19) Tryz.func80 rfl rfl rfl rfl ?_
 unfold slices_Index_impl_Ref.f at H
 refine run_seq (run_region rfl (oz rfl (does_box (cs := [nI x1.fTx, nI x1.fAt]) rfl rfl rfl HM) ?_))
 rintro _ w12 ⟨b13, rfl, HM⟩
 refine oM rfl (ops_nil (at_then ?_))
 obtain ⟨o11, ho14, H⟩ := bind_some H
 refine run_mid (fun ρ_ w_ => Sum.inr () = o11 ∧ ρ_ = [] ∧ Mem w [] w_ []) ?_ ?_
 ·refine run_seq (run_region rfl (oM rfl (oy rfl (ex_len (d := kRef) (xs := x0) rfl rfl U25 hp0) (oM rfl (ops_nil (at_then (run_block ?_)))))))
  refine run_loop (fun k_ ρ_ w_ => ∃ a10 : Int, slices_Index_impl_Ref.l0 x0 x1 k_ a10 = some o11 ∧ ρ_ = [(0, p0), (3, pA b13 0), (7, nI (x0.length : Int)), (8, nI a10)] ∧ Mem w [] w_ [box b13 38 [nI x1.fTx, nI x1.fAt]]) k ⟨_, ho14, rfl, HM⟩ (Sub.of rfl) ?_
  clear HM ho14
  rintro k15 _ w16 ⟨a10, ho14, rfl, HM⟩
  obtain _ | k15 := k15
  ·exact nomatch ((slices_Index_impl_Ref.l0.eq_1 x0 x1 a10).symm.trans ho14)
  replace ho14 := (slices_Index_impl_Ref.l0.eq_2 ..).symm.trans ho14
  refine run_seq (run_region rfl (oy rfl (ex_lss rfl rfl rfl) (ops_nil (at_then (run_seq (run_cond (b := (decide (a10 < (x0.length : Int)))) rfl (fun hb17 => ?_) (fun hb17 => ?_)))))))
  ·replace ho14 := cond_t hb17 ho14
   refine run_skip (at_then (run_seq (run_block (run_seq (run_region rfl (oM rfl (oM rfl (ops_nil (at_then (run_seq ?_))))))))))
   obtain ⟨e18, ho14⟩ := chk_some ho14
   refine run_drawf (fun w_ => Mem w [] w_ [box b13 38 [nI x1.fTx, nI x1.fAt]]) [(0, true), (1, true), (2, true), (3, true), (4, true), (5, true)] mixed rfl rfl (by kernel_rfl) ?_
   replace HM := HM.grow (fr_drew _)
   have hS := HM.sufN 0 rfl
   refine drwp_take rfl (guard_none rfl) rfl rfl (fun w_ hS_ => (ldN rfl rfl U38 rfl tsz38 ((hS_.box_at 0 rfl).subL 0 2 rfl) rfl)) hS (dp rfl rfl rfl rfl (ex_move rfl rfl) hS (dp rfl rfl rfl rfl (ex_move rfl rfl) hS ?_))
   have hc19 : CellsAt _ (sb p0) (so p0 + (a10).toNat * 2) [(nI ((gt x0 a10).fTx)), (nI ((gt x0 a10).fAt))] := rd_plain hp0 e18
   refine dp rfl rfl rfl rfl (ex_indexAddr (d := kRef) rfl rfl rfl U25 tsz38 hp0 (idx_lo e18) (idx_hi e18)) hS (drwp_take rfl (guard_none rfl) rfl rfl (fun w_ hS_ => (ldN rfl rfl U38 rfl tsz38 ((hS_.at_ hc19).subL 0 2 rfl) rfl)) hS (dp rfl rfl rfl rfl (ex_aeql rfl rfl rfl (by kernel_rfl) (eqs38 _ _ _ _ _)) hS ?_))
   refine drwp_done (at_then (run_cond (b := ((x1.fTx == ((gt x0 a10).fTx)) && (x1.fAt == ((gt x0 a10).fAt)))) rfl (fun hb20 => ?_) (fun hb20 => ?_)))
   ·replace ho14 := cond_t hb20 ho14
    refine run_seq (run_region rfl (oM rfl (oM rfl (ops_nil (at_then (run_ret (at_block_ret (at_then_ret (at_then_ret (at_block_ret ?_))))))))))
    refine at_then_ret ?_
    replace HM := HM.frd 0 rfl
    cases ho14
    have hT := thn_inl H
    cases hT
    exact at_ret1 rfl rfl ⟨_, rfl, rfl, HM⟩
   ·replace ho14 := cond_f hb20 ho14
    exact run_skip (at_block (at_then (run_region rfl (oy rfl (ex_add rfl rfl rfl) (oM rfl (ops_nil (at_again k15 (Nat.lt_succ_self _) ⟨_, ho14, rfl, HM⟩ (Sub.of rfl))))))))
  ·replace ho14 := cond_f hb17 ho14
   refine run_exit (at_then_exit (at_then_exit (at_block_exit ?_)))
   replace HM := HM.frd 0 rfl
   exact at_mid ⟨(sj ho14), rfl, HM⟩ Sub.nil
 ·rintro _ w21 ⟨rfl, rfl, HM⟩
  replace H := (thn_inr H)
  refine run_seq (run_region rfl (oM rfl (ops_nil (at_then (run_ret ?_)))))
  cases H
  exact at_ret1 rfl rfl ⟨_, rfl, rfl, HM⟩
end Go.Proofs.YtecgbhfgkkpmhacGreat.Zk
