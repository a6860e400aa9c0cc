/- What functions of the program compute, each as a plain function, and that they do. Conditions: as each theorem states them. -/
import Derived.Test.YtcamddjlhchkfaaGreatSpendTxZkF5
namespace Go.Proofs.YtcamddjlhchkfaaGreat.Zk
open Go Go.RowKit Go.IntWalk Go.Proofs
set_option linter.unusedVariables false
set_option linter.unusedSimpArgs false
set_option maxRecDepth 100000
set_option maxHeartbeats 4000000
def impl_TxFault_1.f (k : Nat) (x0 : Int) : Option Bool := some ((decide (x0 < 1)) || (decide (4 < x0)))
theorem impl_TxFault_1.calls {k : Nat} {x0 : Int}  {w : World}  {r : Bool} (H : impl_TxFault_1.f k x0 = some r) :
    Calls Tryz.prog 80 ([.int .i64 x0] : List Value).toArray w (fun e w_ => ∃ v, e = .returned v ∧ v = (.bool r) ∧ Mem w [] w_ []) := by
  have HM := Mem.start w
  refine calls_run (N := 9) Tryz.func80 rfl rfl rfl rfl ?_
  unfold impl_TxFault_1.f at H
  refine run_seq ?_
  refine run_region rfl ?_
  refine ops_ex rfl (guard_none rfl) rfl rfl (ex_assign rfl rfl) ?_
  refine ops_nil ?_
  refine at_then ?_
  refine run_seq ?_
  refine run_meet (fun ρ_ w_ => ρ_ = [(2, .bool ((decide (x0 < 1)) || (decide (4 < x0))))] ∧ Mem w [] w_ []) ?_ ?_
  · skip
    refine run_region rfl ?_
    refine ops_ex rfl (guard_none rfl) rfl rfl (ex_move rfl rfl) ?_
    refine ops_ex rfl (guard_none rfl) rfl rfl (ex_lss rfl rfl rfl) ?_
    refine ops_ex rfl (guard_none rfl) rfl rfl (ex_move rfl rfl) ?_
    refine bool_cases (decide (x0 < 1)) (fun hg4364 => ?_) (fun hg4364 => ?_)
    · skip
      refine ops_off rfl (guard_off rfl rfl rfl hg4364) rfl rfl ?_
      refine ops_off rfl (guard_off rfl rfl rfl hg4364) rfl rfl ?_
      have hg4365 : ((decide (x0 < 1)) || (decide (4 < x0))) = true := by simp only [hg4364, Bool.and_true, Bool.true_and, Bool.and_false, Bool.false_and, Bool.or_true, Bool.true_or, Bool.or_false, Bool.false_or, Bool.not_true, Bool.not_false, Bool.not_not]
      refine ops_ex (v := .bool ((decide (x0 < 1)) || (decide (4 < x0)))) rfl (guard_none rfl) rfl rfl (ex_por_t rfl rfl hg4364) ?_
      refine ops_ex rfl (guard_none rfl) rfl rfl (ex_assign rfl rfl) ?_
      refine ops_nil ?_
      exact at_meet [(2, .bool ((decide (x0 < 1)) || (decide (4 < x0))))] ⟨rfl, HM⟩ (Sub.cons rfl Sub.nil)
    · skip
      refine ops_ex rfl (guard_on rfl rfl rfl hg4364) rfl rfl (ex_move rfl rfl) ?_
      refine ops_ex rfl (guard_on rfl rfl rfl hg4364) rfl rfl (ex_gtr rfl rfl rfl) ?_
      refine ops_ex (v := .bool ((decide (x0 < 1)) || (decide (4 < x0)))) rfl (guard_none rfl) rfl rfl (ex_por_f rfl rfl hg4364 rfl) ?_
      refine ops_ex rfl (guard_none rfl) rfl rfl (ex_assign rfl rfl) ?_
      refine ops_nil ?_
      exact at_meet [(2, .bool ((decide (x0 < 1)) || (decide (4 < x0))))] ⟨rfl, HM⟩ (Sub.cons rfl Sub.nil)
  · rintro _ w4366 ⟨rfl, HM⟩
    refine at_then ?_
    refine run_ret ?_
    have hR := Option.some.inj H
    subst hR
    exact at_ret1 rfl rfl ⟨_, rfl, rfl, HM⟩

def slices_Index_impl_Ref.l0 (x0 : List Ref) (x1 : Ref) : Nat → Int → Option (Int ⊕ Unit)
  | 0, _ => none
  | k + 1, a4443 => (bif (decide (a4443 < (x0.length : Int))) then (chk (idxOk a4443 x0.length) (bif ((x1.fTx == ((gt x0 a4443).fTx)) && (x1.fAt == ((gt x0 a4443).fAt))) then some (.inl a4443) else slices_Index_impl_Ref.l0 x0 x1 k (wrap64 (a4443 + 1)))) else some (.inr ()))
theorem slices_Index_impl_Ref.l0_z (x0 : List Ref) (x1 : Ref) (a4443 : Int) : slices_Index_impl_Ref.l0 x0 x1 0 a4443 = none := rfl
theorem slices_Index_impl_Ref.l0_s (x0 : List Ref) (x1 : Ref) (k : Nat) (a4443 : Int) : slices_Index_impl_Ref.l0 x0 x1 (k + 1) a4443 = (bif (decide (a4443 < (x0.length : Int))) then (chk (idxOk a4443 x0.length) (bif ((x1.fTx == ((gt x0 a4443).fTx)) && (x1.fAt == ((gt x0 a4443).fAt))) then some (.inl a4443) else slices_Index_impl_Ref.l0 x0 x1 k (wrap64 (a4443 + 1)))) else some (.inr ())) := rfl
def slices_Index_impl_Ref.f (k : Nat) (x0 : List Ref) (x1 : Ref) : Option Int := ((slices_Index_impl_Ref.l0 x0 x1 k 0).bind fun o4437 => thn o4437 (fun r => some r) (fun _ => some (-1)))
theorem slices_Index_impl_Ref.calls {k : Nat} {x0 : List Ref} {x1 : Ref} {p0 : Value} {w : World} (hp0 : RdS kRef w p0 x0) {r : Int} (H : slices_Index_impl_Ref.f k x0 x1 = some r) :
    Calls Tryz.prog 117 ([p0, .agg #[(.int .i64 x1.fTx), (.int .i64 x1.fAt)]] : List Value).toArray w (fun e w_ => ∃ v, e = .returned v ∧ v = (.int .i64 r) ∧ Mem w [] w_ []) := by
  have HM := Mem.start w
  refine calls_run (N := 19) Tryz.func117 rfl rfl rfl rfl ?_
  unfold slices_Index_impl_Ref.f at H
  refine run_seq ?_
  refine run_region rfl ?_
  refine ops_does rfl (guard_none rfl) rfl rfl (does_box (cs := [.int .i64 x1.fTx, .int .i64 x1.fAt]) rfl rfl rfl HM) ?_
  rintro _ w4423 ⟨b4420, rfl, HM⟩
  refine ops_ex rfl (guard_none rfl) rfl rfl (ex_assign rfl rfl) ?_
  refine ops_nil ?_
  refine at_then ?_
  obtain ⟨o4437, ho4438, H⟩ := bind_some H
  refine run_mid (fun ρ_ w_ => Sum.inr () = o4437 ∧ ρ_ = [] ∧ Mem w [] w_ []) ?_ ?_
  · skip
    refine run_seq ?_
    refine run_region rfl ?_
    refine ops_ex rfl (guard_none rfl) rfl rfl (ex_move rfl rfl) ?_
    refine ops_ex rfl (guard_none rfl) rfl rfl (ex_len (d := kRef) (xs := x0) rfl rfl Tryz.underlying34 hp0) ?_
    refine ops_ex rfl (guard_none rfl) rfl rfl (ex_move rfl rfl) ?_
    refine ops_nil ?_
    refine at_then ?_
    refine run_block ?_
    refine run_loop (fun k_ ρ_ w_ => ∃ a4443 : Int, slices_Index_impl_Ref.l0 x0 x1 k_ a4443 = some o4437 ∧ ρ_ = [(0, p0), (3, .pointer (some ⟨b4420, 0, none⟩)), (7, .int .i64 (x0.length : Int)), (8, .int .i64 a4443)] ∧ Mem w [] w_ [box b4420 56 [.int .i64 x1.fTx, .int .i64 x1.fAt]]) k (ρ1 := [(0, p0), (3, .pointer (some ⟨b4420, 0, none⟩)), (7, .int .i64 (x0.length : Int)), (8, .int .i64 0)]) ⟨_, ho4438, rfl, HM⟩ (Sub.cons rfl (Sub.cons rfl (Sub.cons rfl (Sub.cons rfl Sub.nil)))) ?_
    clear HM ho4438
    rintro k4448 _ w4449 ⟨a4443, ho4438, rfl, HM⟩
    obtain _ | k4448 := k4448
    · exact nomatch ((slices_Index_impl_Ref.l0_z x0 x1 a4443).symm.trans ho4438)
    replace ho4438 := (slices_Index_impl_Ref.l0_s x0 x1 k4448 a4443).symm.trans ho4438
    refine run_seq ?_
    refine run_region rfl ?_
    refine ops_ex rfl (guard_none rfl) rfl rfl (ex_lss rfl rfl rfl) ?_
    refine ops_nil ?_
    refine at_then ?_
    refine run_seq ?_
    refine run_cond (b := (decide (a4443 < (x0.length : Int)))) rfl (fun hb4450 => ?_) (fun hb4450 => ?_)
    · replace ho4438 := cond_t hb4450 ho4438
      refine run_skip ?_
      refine at_then ?_
      refine run_seq ?_
      refine run_block ?_
      refine run_seq ?_
      refine run_region rfl ?_
      refine ops_ex rfl (guard_none rfl) rfl rfl (ex_move rfl rfl) ?_
      refine ops_ex rfl (guard_none rfl) rfl rfl (ex_assign rfl rfl) ?_
      refine ops_nil ?_
      refine at_then ?_
      refine run_seq ?_
      obtain ⟨e4451, ho4438⟩ := chk_some ho4438
      refine run_drawf (fun w_ => Mem w [] w_ [box b4420 56 [.int .i64 x1.fTx, .int .i64 x1.fAt]]) [(0, true), (1, true), (2, true), (3, true), (4, true), (5, true)] mixed rfl rfl (by kernel_rfl) ?_
      replace HM := HM.grow (fr_drew _)
      have hS := Mem.suf (M := []) HM
      refine drwp_take rfl (guard_none rfl) rfl rfl (fun w_ hS_ => (ex_loadN (cs := [(.int .i64 x1.fTx), (.int .i64 x1.fAt)]) rfl rfl Tryz.underlying56 rfl tsz56 rfl ((hS_.box_at 0 rfl).sub 0 2 rfl))) hS ?_
      refine drwp_take rfl (guard_none rfl) rfl rfl (fun w_ hS_ => (ex_move rfl rfl)) hS ?_
      refine drwp_take rfl (guard_none rfl) rfl rfl (fun w_ hS_ => (ex_move rfl rfl)) hS ?_
      have hc4452 : CellsAt _ (sb p0) (so p0 + (a4443).toNat * 2) [(.int .i64 ((gt x0 a4443).fTx)), (.int .i64 ((gt x0 a4443).fAt))] := rd_plain hp0 e4451
      refine drwp_take rfl (guard_none rfl) rfl rfl (fun w_ hS_ => (ex_indexAddr (d := kRef) rfl rfl rfl Tryz.underlying34 tsz56 hp0 (idx_lo e4451) (idx_hi e4451))) hS ?_
      refine drwp_take rfl (guard_none rfl) rfl rfl (fun w_ hS_ => (ex_loadN (cs := [(.int .i64 ((gt x0 a4443).fTx)), (.int .i64 ((gt x0 a4443).fAt))]) rfl rfl Tryz.underlying56 rfl tsz56 rfl ((hS_.at_ hc4452).sub 0 2 rfl))) hS ?_
      refine drwp_take rfl (guard_none rfl) rfl rfl (fun w_ hS_ => (ex_aeql rfl rfl rfl (by kernel_rfl) (eqs56 _ _ _ _ _))) hS ?_
      refine drwp_done ?_
      refine at_then ?_
      refine run_cond (b := ((x1.fTx == ((gt x0 a4443).fTx)) && (x1.fAt == ((gt x0 a4443).fAt)))) rfl (fun hb4453 => ?_) (fun hb4453 => ?_)
      · replace ho4438 := cond_t hb4453 ho4438
        refine run_seq ?_
        refine run_region rfl ?_
        refine ops_ex rfl (guard_none rfl) rfl rfl (ex_move rfl rfl) ?_
        refine ops_ex rfl (guard_none rfl) rfl rfl (ex_assign rfl rfl) ?_
        refine ops_nil ?_
        refine at_then ?_
        refine run_ret ?_
        refine at_block_ret ?_
        refine at_then_ret ?_
        refine at_then_ret ?_
        refine at_block_ret ?_
        refine at_then_ret ?_
        replace HM := (HM.front 0 rfl rfl).drop
        have hR := Option.some.inj ho4438
        subst hR
        have hT := thn_inl H
        have hR := Option.some.inj hT
        subst hR
        exact at_ret1 rfl rfl ⟨_, rfl, rfl, HM⟩
      · replace ho4438 := cond_f hb4453 ho4438
        refine run_skip ?_
        refine at_block ?_
        refine at_then ?_
        refine run_region rfl ?_
        refine ops_ex rfl (guard_none rfl) rfl rfl (ex_add rfl rfl rfl) ?_
        refine ops_ex rfl (guard_none rfl) rfl rfl (ex_move rfl rfl) ?_
        refine ops_nil ?_
        exact at_again k4448 (ρ1 := [(0, p0), (3, .pointer (some ⟨b4420, 0, none⟩)), (7, .int .i64 (x0.length : Int)), (8, .int .i64 (wrap64 (a4443 + 1)))]) (Nat.lt_succ_self _) ⟨_, ho4438, rfl, HM⟩ (Sub.cons rfl (Sub.cons rfl (Sub.cons rfl (Sub.cons rfl Sub.nil))))
    · replace ho4438 := cond_f hb4450 ho4438
      refine run_exit ?_
      refine at_then_exit ?_
      refine at_then_exit ?_
      refine at_block_exit ?_
      replace HM := (HM.front 0 rfl rfl).drop
      exact at_mid (ρ' := []) ⟨(Option.some.inj ho4438), rfl, HM⟩ Sub.nil
  · rintro _ w4454 ⟨rfl, rfl, HM⟩
    replace H := (thn_inr H)
    refine run_seq ?_
    refine run_region rfl ?_
    refine ops_ex rfl (guard_none rfl) rfl rfl (ex_assign rfl rfl) ?_
    refine ops_nil ?_
    refine at_then ?_
    refine run_ret ?_
    have hR := Option.some.inj H
    subst hR
    exact at_ret1 rfl rfl ⟨_, rfl, rfl, HM⟩

def slices_Contains_impl_Ref.f (k : Nat) (x0 : List Ref) (x1 : Ref) : Option Bool := ((slices_Index_impl_Ref.f k x0 x1).bind fun t4461 => some (decide (0 ≤ t4461)))
theorem slices_Contains_impl_Ref.calls {k : Nat} {x0 : List Ref} {x1 : Ref} {p0 : Value} {w : World} (hp0 : RdS kRef w p0 x0) {r : Bool} (H : slices_Contains_impl_Ref.f k x0 x1 = some r) :
    Calls Tryz.prog 82 ([p0, .agg #[(.int .i64 x1.fTx), (.int .i64 x1.fAt)]] : List Value).toArray w (fun e w_ => ∃ v, e = .returned v ∧ v = (.bool r) ∧ Mem w [] w_ []) := by
  have HM := Mem.start w
  refine calls_run (N := 9) Tryz.func82 rfl rfl rfl rfl ?_
  unfold slices_Contains_impl_Ref.f at H
  refine run_seq ?_
  refine run_region rfl ?_
  refine ops_does rfl (guard_none rfl) rfl rfl (does_box (cs := [.int .i64 x1.fTx, .int .i64 x1.fAt]) rfl rfl rfl HM) ?_
  rintro _ w4460 ⟨b4457, rfl, HM⟩
  refine ops_ex rfl (guard_none rfl) rfl rfl (ex_assign rfl rfl) ?_
  refine ops_nil ?_
  refine at_then ?_
  refine run_seq ?_
  obtain ⟨t4461, h4462, H⟩ := bind_some H
  refine run_region rfl ?_
  refine ops_ex rfl (guard_none rfl) rfl rfl (ex_move rfl rfl) ?_
  refine ops_ex rfl (guard_none rfl) rfl rfl (ex_loadN (cs := [(.int .i64 x1.fTx), (.int .i64 x1.fAt)]) rfl rfl Tryz.underlying56 rfl tsz56 rfl ((HM.box_at 0 rfl).sub 0 2 rfl)) ?_
  refine ops_does rfl (guard_none rfl) rfl rfl (does_callk rfl callok117 rfl (slices_Index_impl_Ref.calls (x0 := x0) (x1 := x1) (HM.rd hp0) h4462)) ?_
  rintro _ w4463 ⟨rfl, hn⟩
  replace HM : Mem w [] w4463 [box b4457 56 [.int .i64 x1.fTx, .int .i64 x1.fAt]] := HM.call hn
  refine ops_ex rfl (guard_none rfl) rfl rfl (ex_geq rfl rfl rfl) ?_
  refine ops_ex rfl (guard_none rfl) rfl rfl (ex_assign rfl rfl) ?_
  refine ops_nil ?_
  refine at_then ?_
  refine run_ret ?_
  replace HM := (HM.front 0 rfl rfl).drop
  have hR := Option.some.inj H
  subst hR
  exact at_ret1 rfl rfl ⟨_, rfl, rfl, HM⟩

def impl_outFault.f (k : Nat) (x0 : Out) : Option Int := ((impl_within.f k x0.fValue 1 1000000).bind fun t4528 => (bif !t4528 then some 3 else ((impl_RuleFault.f k x0.fRule).bind fun t4532 => some t4532)))
theorem impl_outFault.calls {k : Nat} {x0 : Out} {p0_0 : Value} {w : World} (hp0_0 : RdS kInt w p0_0 x0.fRule.fKeys) {r : Int} (H : impl_outFault.f k x0 = some r) :
    Calls Tryz.prog 83 ([.agg #[(.int .i64 x0.fValue), p0_0, (.int .i64 x0.fRule.fNeed), (.int .i64 x0.fRule.fAfter)]] : List Value).toArray w (fun e w_ => ∃ v, e = .returned v ∧ v = (.int .i64 r) ∧ Mem w [] w_ []) := by
  have HM := Mem.start w
  refine calls_run (N := 10) Tryz.func83 rfl rfl rfl rfl ?_
  unfold impl_outFault.f at H
  refine run_seq ?_
  refine run_region rfl ?_
  refine ops_does rfl (guard_none rfl) rfl rfl (does_box (cs := [.int .i64 x0.fValue, p0_0, .int .i64 x0.fRule.fNeed, .int .i64 x0.fRule.fAfter]) rfl rfl rfl HM) ?_
  rintro _ w4527 ⟨b4524, rfl, HM⟩
  refine ops_ex rfl (guard_none rfl) rfl rfl (ex_assign rfl rfl) ?_
  refine ops_nil ?_
  refine at_then ?_
  refine run_seq ?_
  refine run_seq ?_
  obtain ⟨t4528, h4529, H⟩ := bind_some H
  refine run_region rfl ?_
  refine ops_ex rfl (guard_none rfl) rfl rfl (ex_fieldAddr (off' := 0) rfl rfl Tryz.underlying75 rfl tsz2 rfl) ?_
  refine ops_ex rfl (guard_none rfl) rfl rfl (ex_load1 rfl rfl Tryz.underlying2 rfl ((HM.box_at 0 rfl) 0 _ rfl)) ?_
  refine ops_does rfl (guard_none rfl) rfl rfl (does_callk rfl callok66 rfl (impl_within.calls (x0 := x0.fValue) (x1 := 1) (x2 := 1000000) h4529)) ?_
  rintro _ w4530 ⟨rfl, hn⟩
  replace HM : Mem w [] w4530 [box b4524 75 [.int .i64 x0.fValue, p0_0, .int .i64 x0.fRule.fNeed, .int .i64 x0.fRule.fAfter]] := HM.call hn
  refine ops_ex rfl (guard_none rfl) rfl rfl (ex_not rfl rfl) ?_
  refine ops_nil ?_
  refine at_then ?_
  refine run_cond (b := !t4528) rfl (fun hb4531 => ?_) (fun hb4531 => ?_)
  · replace H := cond_t hb4531 H
    refine run_seq ?_
    refine run_region rfl ?_
    refine ops_ex rfl (guard_none rfl) rfl rfl (ex_assign rfl rfl) ?_
    refine ops_nil ?_
    refine at_then ?_
    refine run_ret ?_
    refine at_then_ret ?_
    replace HM := (HM.front 0 rfl rfl).drop
    have hR := Option.some.inj H
    subst hR
    exact at_ret1 rfl rfl ⟨_, rfl, rfl, HM⟩
  · replace H := cond_f hb4531 H
    refine run_skip ?_
    refine at_then ?_
    refine run_seq ?_
    obtain ⟨t4532, h4533, H⟩ := bind_some H
    refine run_region rfl ?_
    refine ops_ex rfl (guard_none rfl) rfl rfl (ex_fieldAddr (off' := 1) rfl rfl Tryz.underlying75 rfl tsz73 rfl) ?_
    refine ops_ex rfl (guard_none rfl) rfl rfl (ex_loadN (cs := [p0_0, (.int .i64 x0.fRule.fNeed), (.int .i64 x0.fRule.fAfter)]) rfl rfl Tryz.underlying73 rfl tsz73 rfl ((HM.box_at 0 rfl).sub 1 3 rfl)) ?_
    refine ops_does rfl (guard_none rfl) rfl rfl (does_callk rfl callok67 rfl (impl_RuleFault.calls (x0 := x0.fRule) (HM.rd hp0_0) h4533)) ?_
    rintro _ w4534 ⟨rfl, hn⟩
    replace HM : Mem w [] w4534 [box b4524 75 [.int .i64 x0.fValue, p0_0, .int .i64 x0.fRule.fNeed, .int .i64 x0.fRule.fAfter]] := HM.call hn
    refine ops_ex rfl (guard_none rfl) rfl rfl (ex_assign rfl rfl) ?_
    refine ops_nil ?_
    refine at_then ?_
    refine run_ret ?_
    replace HM := (HM.front 0 rfl rfl).drop
    have hR := Option.some.inj H
    subst hR
    exact at_ret1 rfl rfl ⟨_, rfl, rfl, HM⟩

def impl_TxFault.l0 (x0 : Tx) : Nat → Int → Option (Int ⊕ Unit)
  | 0, _ => none
  | k + 1, a4686 => (bif (decide (a4686 < (x0.fIns.length : Int))) then (chk (idxOk a4686 x0.fIns.length) ((impl_isRef.f k (gt x0.fIns a4686)).bind fun t4719 => (bif !t4719 then some (.inl 3) else (chk (cutOk a4686 x0.fIns.length) ((slices_Contains_impl_Ref.f k (x0.fIns.take (a4686).toNat) (gt x0.fIns a4686)).bind fun t4727 => (bif t4727 then some (.inl 7) else impl_TxFault.l0 x0 k (wrap64 (a4686 + 1)))))))) else some (.inr ()))
theorem impl_TxFault.l0_z (x0 : Tx) (a4686 : Int) : impl_TxFault.l0 x0 0 a4686 = none := rfl
theorem impl_TxFault.l0_s (x0 : Tx) (k : Nat) (a4686 : Int) : impl_TxFault.l0 x0 (k + 1) a4686 = (bif (decide (a4686 < (x0.fIns.length : Int))) then (chk (idxOk a4686 x0.fIns.length) ((impl_isRef.f k (gt x0.fIns a4686)).bind fun t4719 => (bif !t4719 then some (.inl 3) else (chk (cutOk a4686 x0.fIns.length) ((slices_Contains_impl_Ref.f k (x0.fIns.take (a4686).toNat) (gt x0.fIns a4686)).bind fun t4727 => (bif t4727 then some (.inl 7) else impl_TxFault.l0 x0 k (wrap64 (a4686 + 1)))))))) else some (.inr ())) := rfl
def impl_TxFault.l1 (x0 : Tx) : Nat → Int → Option (Int ⊕ Unit)
  | 0, _ => none
  | k + 1, a4779 => (bif (decide (a4779 < (x0.fOuts.length : Int))) then (chk (idxOk a4779 x0.fOuts.length) ((impl_outFault.f k (gt x0.fOuts a4779)).bind fun t4803 => (bif (t4803 != 0) then some (.inl t4803) else impl_TxFault.l1 x0 k (wrap64 (a4779 + 1))))) else some (.inr ()))
theorem impl_TxFault.l1_z (x0 : Tx) (a4779 : Int) : impl_TxFault.l1 x0 0 a4779 = none := rfl
theorem impl_TxFault.l1_s (x0 : Tx) (k : Nat) (a4779 : Int) : impl_TxFault.l1 x0 (k + 1) a4779 = (bif (decide (a4779 < (x0.fOuts.length : Int))) then (chk (idxOk a4779 x0.fOuts.length) ((impl_outFault.f k (gt x0.fOuts a4779)).bind fun t4803 => (bif (t4803 != 0) then some (.inl t4803) else impl_TxFault.l1 x0 k (wrap64 (a4779 + 1))))) else some (.inr ())) := rfl
def impl_TxFault.f (k : Nat) (x0 : Tx) : Option Int := ((impl_within.f k x0.fKind 0 2).bind fun t4583 => (bif ((!t4583) || ((x0.fKind == 0) != (x0.fMember == 0))) then some 1 else ((bif (x0.fMember != 0) then impl_isKey.f k x0.fMember else some default).bind fun t4590 => (bif ((x0.fMember != 0) && (!t4590)) then some 3 else ((impl_TxFault_1.f k (x0.fIns.length : Int)).bind fun t4597 => ((bif (!t4597) then impl_TxFault_1.f k (x0.fOuts.length : Int) else some default).bind fun t4599 => (bif (t4597 || t4599) then some 2 else ((impl_TxFault.l0 x0 k 0).bind fun o4665 => thn o4665 (fun r => some r) (fun _ => ((impl_TxFault.l1 x0 k 0).bind fun o4766 => thn o4766 (fun r => some r) (fun _ => (chk (!(x0.fKind == 1) || (idxOk (0 : Int) x0.fOuts.length)) (bif ((x0.fKind == 1) && (decide (((gt x0.fOuts (0 : Int)).fValue) < 100))) then some 8 else some 0)))))))))))))
theorem impl_TxFault.calls {k : Nat} {x0 : Tx} {p0_0 : Value} {p0_1 : Value} {w : World} (hp0_0 : RdS kRef w p0_0 x0.fIns) (hp0_1 : RdS kOut w p0_1 x0.fOuts) {r : Int} (H : impl_TxFault.f k x0 = some r) :
    Calls Tryz.prog 38 ([.agg #[(.int .i64 x0.fKind), (.int .i64 x0.fMember), p0_0, p0_1]] : List Value).toArray w (fun e w_ => ∃ v, e = .returned v ∧ v = (.int .i64 r) ∧ Mem w [] w_ []) := by
  have HM := Mem.start w
  refine calls_run (N := 88) Tryz.func38 rfl rfl rfl rfl ?_
  unfold impl_TxFault.f at H
  refine run_seq ?_
  refine run_region rfl ?_
  refine ops_does rfl (guard_none rfl) rfl rfl (does_box (cs := [.int .i64 x0.fKind, .int .i64 x0.fMember, p0_0, p0_1]) rfl rfl rfl HM) ?_
  rintro _ w4571 ⟨b4568, rfl, HM⟩
  refine ops_ex rfl (guard_none rfl) rfl rfl (ex_assign rfl rfl) ?_
  refine ops_nil ?_
  refine at_then ?_
  refine run_seq ?_
  refine run_region rfl ?_
  refine ops_ex rfl (guard_none rfl) rfl rfl (ex_assign rfl rfl) ?_
  refine ops_nil ?_
  refine at_then ?_
  refine run_seq ?_
  refine run_block ?_
  refine run_seq ?_
  obtain ⟨t4583, h4584, H⟩ := bind_some H
  refine run_meet (fun ρ_ w_ => ρ_ = [(1, .pointer (some ⟨b4568, 0, none⟩)), (3, .func (.func 80) #[] #[]), (9, .bool ((!t4583) || ((x0.fKind == 0) != (x0.fMember == 0))))] ∧ Mem w [] w_ [box b4568 37 [.int .i64 x0.fKind, .int .i64 x0.fMember, p0_0, p0_1]]) ?_ ?_
  · skip
    refine run_region rfl ?_
    refine ops_ex rfl (guard_none rfl) rfl rfl (ex_fieldAddr (off' := 0) rfl rfl Tryz.underlying37 rfl tsz2 rfl) ?_
    refine ops_ex rfl (guard_none rfl) rfl rfl (ex_load1 rfl rfl Tryz.underlying2 rfl ((HM.box_at 0 rfl) 0 _ rfl)) ?_
    refine ops_does rfl (guard_none rfl) rfl rfl (does_callk rfl callok66 rfl (impl_within.calls (x0 := x0.fKind) (x1 := 0) (x2 := 2) h4584)) ?_
    rintro _ w4585 ⟨rfl, hn⟩
    replace HM : Mem w [] w4585 [box b4568 37 [.int .i64 x0.fKind, .int .i64 x0.fMember, p0_0, p0_1]] := HM.call hn
    refine ops_ex rfl (guard_none rfl) rfl rfl (ex_not rfl rfl) ?_
    refine ops_ex rfl (guard_none rfl) rfl rfl (ex_move rfl rfl) ?_
    refine bool_cases (!t4583) (fun hg4586 => ?_) (fun hg4586 => ?_)
    · skip
      refine ops_off rfl (guard_off rfl rfl rfl hg4586) rfl rfl ?_
      refine ops_off rfl (guard_off rfl rfl rfl hg4586) rfl rfl ?_
      refine ops_off rfl (guard_off rfl rfl rfl hg4586) rfl rfl ?_
      refine ops_off rfl (guard_off rfl rfl rfl hg4586) rfl rfl ?_
      refine ops_off rfl (guard_off rfl rfl rfl hg4586) rfl rfl ?_
      refine ops_off rfl (guard_off rfl rfl rfl hg4586) rfl rfl ?_
      refine ops_off rfl (guard_off rfl rfl rfl hg4586) rfl rfl ?_
      have hg4587 : ((!t4583) || ((x0.fKind == 0) != (x0.fMember == 0))) = true := by simp only [hg4586, Bool.and_true, Bool.true_and, Bool.and_false, Bool.false_and, Bool.or_true, Bool.true_or, Bool.or_false, Bool.false_or, Bool.not_true, Bool.not_false, Bool.not_not]
      refine ops_ex (v := .bool ((!t4583) || ((x0.fKind == 0) != (x0.fMember == 0)))) rfl (guard_none rfl) rfl rfl (ex_por_t rfl rfl hg4586) ?_
      refine ops_ex rfl (guard_none rfl) rfl rfl (ex_assign rfl rfl) ?_
      refine ops_nil ?_
      exact at_meet [(1, .pointer (some ⟨b4568, 0, none⟩)), (3, .func (.func 80) #[] #[]), (9, .bool ((!t4583) || ((x0.fKind == 0) != (x0.fMember == 0))))] ⟨rfl, HM⟩ (Sub.cons rfl (Sub.cons rfl (Sub.cons rfl Sub.nil)))
    · skip
      refine ops_ex rfl (guard_on rfl rfl rfl hg4586) rfl rfl (ex_fieldAddr (off' := 0) rfl rfl Tryz.underlying37 rfl tsz2 rfl) ?_
      refine ops_ex rfl (guard_on rfl rfl rfl hg4586) rfl rfl (ex_load1 rfl rfl Tryz.underlying2 rfl ((HM.box_at 0 rfl) 0 _ rfl)) ?_
      refine ops_ex rfl (guard_on rfl rfl rfl hg4586) rfl rfl (ex_eql rfl rfl rfl) ?_
      refine ops_ex rfl (guard_on rfl rfl rfl hg4586) rfl rfl (ex_fieldAddr (off' := 1) rfl rfl Tryz.underlying37 rfl tsz2 rfl) ?_
      refine ops_ex rfl (guard_on rfl rfl rfl hg4586) rfl rfl (ex_load1 rfl rfl Tryz.underlying2 rfl ((HM.box_at 0 rfl) 1 _ rfl)) ?_
      refine ops_ex rfl (guard_on rfl rfl rfl hg4586) rfl rfl (ex_eql rfl rfl rfl) ?_
      refine ops_ex rfl (guard_on rfl rfl rfl hg4586) rfl rfl (ex_bneq rfl rfl rfl Tryz.underlying4) ?_
      refine ops_ex (v := .bool ((!t4583) || ((x0.fKind == 0) != (x0.fMember == 0)))) rfl (guard_none rfl) rfl rfl (ex_por_f rfl rfl hg4586 rfl) ?_
      refine ops_ex rfl (guard_none rfl) rfl rfl (ex_assign rfl rfl) ?_
      refine ops_nil ?_
      exact at_meet [(1, .pointer (some ⟨b4568, 0, none⟩)), (3, .func (.func 80) #[] #[]), (9, .bool ((!t4583) || ((x0.fKind == 0) != (x0.fMember == 0))))] ⟨rfl, HM⟩ (Sub.cons rfl (Sub.cons rfl (Sub.cons rfl Sub.nil)))
  · rintro _ w4588 ⟨rfl, HM⟩
    refine at_then ?_
    refine run_cond (b := ((!t4583) || ((x0.fKind == 0) != (x0.fMember == 0)))) rfl (fun hb4589 => ?_) (fun hb4589 => ?_)
    · replace H := cond_t hb4589 H
      refine run_seq ?_
      refine run_region rfl ?_
      refine ops_ex rfl (guard_none rfl) rfl rfl (ex_assign rfl rfl) ?_
      refine ops_nil ?_
      refine at_then ?_
      refine run_ret ?_
      refine at_block_ret ?_
      refine at_then_ret ?_
      replace HM := (HM.front 0 rfl rfl).drop
      have hR := Option.some.inj H
      subst hR
      exact at_ret1 rfl rfl ⟨_, rfl, rfl, HM⟩
    · replace H := cond_f hb4589 H
      refine run_seq ?_
      obtain ⟨t4590, h4591, H⟩ := bind_some H
      refine run_meet (fun ρ_ w_ => ρ_ = [(1, .pointer (some ⟨b4568, 0, none⟩)), (3, .func (.func 80) #[] #[]), (23, .bool ((x0.fMember != 0) && (!t4590)))] ∧ Mem w [] w_ [box b4568 37 [.int .i64 x0.fKind, .int .i64 x0.fMember, p0_0, p0_1]]) ?_ ?_
      · skip
        refine run_region rfl ?_
        refine ops_ex rfl (guard_none rfl) rfl rfl (ex_fieldAddr (off' := 1) rfl rfl Tryz.underlying37 rfl tsz2 rfl) ?_
        refine ops_ex rfl (guard_none rfl) rfl rfl (ex_load1 rfl rfl Tryz.underlying2 rfl ((HM.box_at 0 rfl) 1 _ rfl)) ?_
        refine ops_ex rfl (guard_none rfl) rfl rfl (ex_neq rfl rfl rfl) ?_
        refine ops_ex rfl (guard_none rfl) rfl rfl (ex_move rfl rfl) ?_
        refine bool_cases (x0.fMember != 0) (fun hg4592 => ?_) (fun hg4592 => ?_)
        · skip
          refine ops_ex rfl (guard_on rfl rfl rfl hg4592) rfl rfl (ex_fieldAddr (off' := 1) rfl rfl Tryz.underlying37 rfl tsz2 rfl) ?_
          refine ops_ex rfl (guard_on rfl rfl rfl hg4592) rfl rfl (ex_load1 rfl rfl Tryz.underlying2 rfl ((HM.box_at 0 rfl) 1 _ rfl)) ?_
          refine ops_does rfl (guard_on rfl rfl rfl hg4592) rfl rfl (does_callk rfl callok81 rfl (impl_isKey.calls (x0 := x0.fMember) (cond_t hg4592 h4591))) ?_
          rintro _ w4593 ⟨rfl, hn⟩
          replace HM : Mem w [] w4593 [box b4568 37 [.int .i64 x0.fKind, .int .i64 x0.fMember, p0_0, p0_1]] := HM.call hn
          refine ops_ex rfl (guard_on rfl rfl rfl hg4592) rfl rfl (ex_not rfl rfl) ?_
          refine ops_ex (v := .bool ((x0.fMember != 0) && (!t4590))) rfl (guard_none rfl) rfl rfl (ex_pand_t rfl rfl hg4592 rfl) ?_
          refine ops_ex rfl (guard_none rfl) rfl rfl (ex_assign rfl rfl) ?_
          refine ops_nil ?_
          exact at_meet [(1, .pointer (some ⟨b4568, 0, none⟩)), (3, .func (.func 80) #[] #[]), (23, .bool ((x0.fMember != 0) && (!t4590)))] ⟨rfl, HM⟩ (Sub.cons rfl (Sub.cons rfl (Sub.cons rfl Sub.nil)))
        · skip
          refine ops_off rfl (guard_off rfl rfl rfl hg4592) rfl rfl ?_
          refine ops_off rfl (guard_off rfl rfl rfl hg4592) rfl rfl ?_
          refine ops_off rfl (guard_off rfl rfl rfl hg4592) rfl rfl ?_
          refine ops_off rfl (guard_off rfl rfl rfl hg4592) rfl rfl ?_
          have hg4594 : ((x0.fMember != 0) && (!t4590)) = false := by simp only [hg4592, Bool.and_true, Bool.true_and, Bool.and_false, Bool.false_and, Bool.or_true, Bool.true_or, Bool.or_false, Bool.false_or, Bool.not_true, Bool.not_false, Bool.not_not]
          refine ops_ex (v := .bool ((x0.fMember != 0) && (!t4590))) rfl (guard_none rfl) rfl rfl (ex_pand_f rfl rfl hg4592) ?_
          refine ops_ex rfl (guard_none rfl) rfl rfl (ex_assign rfl rfl) ?_
          refine ops_nil ?_
          exact at_meet [(1, .pointer (some ⟨b4568, 0, none⟩)), (3, .func (.func 80) #[] #[]), (23, .bool ((x0.fMember != 0) && (!t4590)))] ⟨rfl, HM⟩ (Sub.cons rfl (Sub.cons rfl (Sub.cons rfl Sub.nil)))
      · rintro _ w4595 ⟨rfl, HM⟩
        refine at_then ?_
        refine run_cond (b := ((x0.fMember != 0) && (!t4590))) rfl (fun hb4596 => ?_) (fun hb4596 => ?_)
        · replace H := cond_t hb4596 H
          refine run_seq ?_
          refine run_region rfl ?_
          refine ops_ex rfl (guard_none rfl) rfl rfl (ex_assign rfl rfl) ?_
          refine ops_nil ?_
          refine at_then ?_
          refine run_ret ?_
          refine at_block_ret ?_
          refine at_then_ret ?_
          replace HM := (HM.front 0 rfl rfl).drop
          have hR := Option.some.inj H
          subst hR
          exact at_ret1 rfl rfl ⟨_, rfl, rfl, HM⟩
        · replace H := cond_f hb4596 H
          refine run_seq ?_
          obtain ⟨t4597, h4598, H⟩ := bind_some H
          obtain ⟨t4599, h4600, H⟩ := bind_some H
          refine run_meet (fun ρ_ w_ => ρ_ = [(1, .pointer (some ⟨b4568, 0, none⟩)), (33, .bool (t4597 || t4599))] ∧ Mem w [] w_ [box b4568 37 [.int .i64 x0.fKind, .int .i64 x0.fMember, p0_0, p0_1]]) ?_ ?_
          · skip
            refine run_region rfl ?_
            refine ops_ex rfl (guard_none rfl) rfl rfl (ex_move rfl rfl) ?_
            refine ops_ex rfl (guard_none rfl) rfl rfl (ex_fieldAddr (off' := 2) rfl rfl Tryz.underlying37 rfl tsz34 rfl) ?_
            refine ops_ex rfl (guard_none rfl) rfl rfl (ex_load1 rfl rfl Tryz.underlying34 rfl ((HM.box_at 0 rfl) 2 _ rfl)) ?_
            refine ops_ex rfl (guard_none rfl) rfl rfl (ex_len (d := kRef) (xs := x0.fIns) rfl rfl Tryz.underlying34 hp0_0) ?_
            refine ops_does rfl (guard_none rfl) rfl rfl (does_callvk rfl callok80 rfl rfl rfl (impl_TxFault_1.calls (x0 := (x0.fIns.length : Int)) h4598)) ?_
            rintro _ w4601 ⟨rfl, hn⟩
            replace HM : Mem w [] w4601 [box b4568 37 [.int .i64 x0.fKind, .int .i64 x0.fMember, p0_0, p0_1]] := HM.call hn
            refine ops_ex rfl (guard_none rfl) rfl rfl (ex_move rfl rfl) ?_
            refine bool_cases t4597 (fun hg4602 => ?_) (fun hg4602 => ?_)
            · skip
              refine ops_off rfl (guard_off rfl rfl rfl hg4602) rfl rfl ?_
              refine ops_off rfl (guard_off rfl rfl rfl hg4602) rfl rfl ?_
              refine ops_off rfl (guard_off rfl rfl rfl hg4602) rfl rfl ?_
              refine ops_off rfl (guard_off rfl rfl rfl hg4602) rfl rfl ?_
              refine ops_off rfl (guard_off rfl rfl rfl hg4602) rfl rfl ?_
              have hg4603 : (t4597 || t4599) = true := by simp only [hg4602, Bool.and_true, Bool.true_and, Bool.and_false, Bool.false_and, Bool.or_true, Bool.true_or, Bool.or_false, Bool.false_or, Bool.not_true, Bool.not_false, Bool.not_not]
              refine ops_ex (v := .bool (t4597 || t4599)) rfl (guard_none rfl) rfl rfl (ex_por_t rfl rfl hg4602) ?_
              refine ops_ex rfl (guard_none rfl) rfl rfl (ex_assign rfl rfl) ?_
              refine ops_nil ?_
              exact at_meet [(1, .pointer (some ⟨b4568, 0, none⟩)), (33, .bool (t4597 || t4599))] ⟨rfl, HM⟩ (Sub.cons rfl (Sub.cons rfl Sub.nil))
            · skip
              refine ops_ex rfl (guard_on rfl rfl rfl hg4602) rfl rfl (ex_move rfl rfl) ?_
              refine ops_ex rfl (guard_on rfl rfl rfl hg4602) rfl rfl (ex_fieldAddr (off' := 3) rfl rfl Tryz.underlying37 rfl tsz35 rfl) ?_
              refine ops_ex rfl (guard_on rfl rfl rfl hg4602) rfl rfl (ex_load1 rfl rfl Tryz.underlying35 rfl ((HM.box_at 0 rfl) 3 _ rfl)) ?_
              refine ops_ex rfl (guard_on rfl rfl rfl hg4602) rfl rfl (ex_len (d := kOut) (xs := x0.fOuts) rfl rfl Tryz.underlying35 hp0_1) ?_
              refine ops_does rfl (guard_on rfl rfl rfl hg4602) rfl rfl (does_callvk rfl callok80 rfl rfl rfl (impl_TxFault_1.calls (x0 := (x0.fOuts.length : Int)) (cond_t (not_mk hg4602) h4600))) ?_
              rintro _ w4604 ⟨rfl, hn⟩
              replace HM : Mem w [] w4604 [box b4568 37 [.int .i64 x0.fKind, .int .i64 x0.fMember, p0_0, p0_1]] := HM.call hn
              refine ops_ex (v := .bool (t4597 || t4599)) rfl (guard_none rfl) rfl rfl (ex_por_f rfl rfl hg4602 rfl) ?_
              refine ops_ex rfl (guard_none rfl) rfl rfl (ex_assign rfl rfl) ?_
              refine ops_nil ?_
              exact at_meet [(1, .pointer (some ⟨b4568, 0, none⟩)), (33, .bool (t4597 || t4599))] ⟨rfl, HM⟩ (Sub.cons rfl (Sub.cons rfl Sub.nil))
          · rintro _ w4605 ⟨rfl, HM⟩
            refine at_then ?_
            refine run_cond (b := (t4597 || t4599)) rfl (fun hb4606 => ?_) (fun hb4606 => ?_)
            · replace H := cond_t hb4606 H
              refine run_seq ?_
              refine run_region rfl ?_
              refine ops_ex rfl (guard_none rfl) rfl rfl (ex_assign rfl rfl) ?_
              refine ops_nil ?_
              refine at_then ?_
              refine run_ret ?_
              refine at_block_ret ?_
              refine at_then_ret ?_
              replace HM := (HM.front 0 rfl rfl).drop
              have hR := Option.some.inj H
              subst hR
              exact at_ret1 rfl rfl ⟨_, rfl, rfl, HM⟩
            · replace H := cond_f hb4606 H
              refine run_skip ?_
              refine at_block ?_
              refine at_then ?_
              obtain ⟨o4665, ho4666, H⟩ := bind_some H
              refine run_mid (fun ρ_ w_ => Sum.inr () = o4665 ∧ ρ_ = [(1, .pointer (some ⟨b4568, 0, none⟩))] ∧ Mem w [] w_ [box b4568 37 [.int .i64 x0.fKind, .int .i64 x0.fMember, p0_0, p0_1]]) ?_ ?_
              · skip
                refine run_seq ?_
                refine run_region rfl ?_
                refine ops_ex rfl (guard_none rfl) rfl rfl (ex_fieldAddr (off' := 2) rfl rfl Tryz.underlying37 rfl tsz34 rfl) ?_
                refine ops_ex rfl (guard_none rfl) rfl rfl (ex_load1 rfl rfl Tryz.underlying34 rfl ((HM.box_at 0 rfl) 2 _ rfl)) ?_
                refine ops_ex rfl (guard_none rfl) rfl rfl (ex_len (d := kRef) (xs := x0.fIns) rfl rfl Tryz.underlying34 hp0_0) ?_
                refine ops_ex rfl (guard_none rfl) rfl rfl (ex_move rfl rfl) ?_
                refine ops_nil ?_
                refine at_then ?_
                refine run_block ?_
                refine run_loop (fun k_ ρ_ w_ => ∃ a4686 : Int, impl_TxFault.l0 x0 k_ a4686 = some o4665 ∧ ρ_ = [(1, .pointer (some ⟨b4568, 0, none⟩)), (47, p0_0), (48, .int .i64 (x0.fIns.length : Int)), (49, .int .i64 a4686)] ∧ Mem w [] w_ [box b4568 37 [.int .i64 x0.fKind, .int .i64 x0.fMember, p0_0, p0_1]]) k (ρ1 := [(1, .pointer (some ⟨b4568, 0, none⟩)), (47, p0_0), (48, .int .i64 (x0.fIns.length : Int)), (49, .int .i64 0)]) ⟨_, ho4666, rfl, HM⟩ (Sub.cons rfl (Sub.cons rfl (Sub.cons rfl (Sub.cons rfl Sub.nil)))) ?_
                clear HM ho4666
                rintro k4706 _ w4707 ⟨a4686, ho4666, rfl, HM⟩
                obtain _ | k4706 := k4706
                · exact nomatch ((impl_TxFault.l0_z x0 a4686).symm.trans ho4666)
                replace ho4666 := (impl_TxFault.l0_s x0 k4706 a4686).symm.trans ho4666
                refine run_seq ?_
                refine run_region rfl ?_
                refine ops_ex rfl (guard_none rfl) rfl rfl (ex_lss rfl rfl rfl) ?_
                refine ops_nil ?_
                refine at_then ?_
                refine run_seq ?_
                refine run_cond (b := (decide (a4686 < (x0.fIns.length : Int)))) rfl (fun hb4708 => ?_) (fun hb4708 => ?_)
                · replace ho4666 := cond_t hb4708 ho4666
                  refine run_skip ?_
                  refine at_then ?_
                  refine run_seq ?_
                  refine run_block ?_
                  refine run_seq ?_
                  obtain ⟨e4709, ho4666⟩ := chk_some ho4666
                  refine run_region rfl ?_
                  refine ops_ex rfl (guard_none rfl) rfl rfl (ex_move rfl rfl) ?_
                  have hc4710 : CellsAt _ (sb p0_0) (so p0_0 + (a4686).toNat * 2) [(.int .i64 ((gt x0.fIns a4686).fTx)), (.int .i64 ((gt x0.fIns a4686).fAt))] := rd_plain hp0_0 e4709
                  refine ops_ex rfl (guard_none rfl) rfl rfl (ex_indexAddr (d := kRef) rfl rfl rfl Tryz.underlying34 tsz56 hp0_0 (idx_lo e4709) (idx_hi e4709)) ?_
                  refine ops_ex rfl (guard_none rfl) rfl rfl (ex_loadN (cs := [(.int .i64 ((gt x0.fIns a4686).fTx)), (.int .i64 ((gt x0.fIns a4686).fAt))]) rfl rfl Tryz.underlying56 rfl tsz56 rfl ((HM.at_ hc4710).sub 0 2 rfl)) ?_
                  refine ops_does rfl (guard_none rfl) rfl rfl (does_alloc (cs := [.int .i64 0, .int .i64 0]) rfl tz56 rfl HM) ?_
                  rintro _ w4714 ⟨b4711, rfl, HM⟩
                  refine ops_ex rfl (guard_none rfl) rfl rfl (ex_assign rfl rfl) ?_
                  refine ops_doesS rfl (guard_none rfl) rfl (does_store (vs := [.int .i64 ((gt x0.fIns a4686).fTx), .int .i64 ((gt x0.fIns a4686).fAt)]) (cs' := [.int .i64 ((gt x0.fIns a4686).fTx), .int .i64 ((gt x0.fIns a4686).fAt)]) rfl rfl rfl rfl tsz56 (Ones.int (Ones.int Ones.nil)) rfl rfl HM) ?_
                  rintro w4715 HM
                  refine ops_nil ?_
                  refine at_then ?_
                  refine run_seq ?_
                  refine run_seq ?_
                  obtain ⟨t4719, h4720, ho4666⟩ := bind_some ho4666
                  refine run_region rfl ?_
                  refine ops_ex rfl (guard_none rfl) rfl rfl (ex_loadN (cs := [(.int .i64 ((gt x0.fIns a4686).fTx)), (.int .i64 ((gt x0.fIns a4686).fAt))]) rfl rfl Tryz.underlying56 rfl tsz56 rfl ((HM.box_at 0 rfl).sub 0 2 rfl)) ?_
                  refine ops_does rfl (guard_none rfl) rfl rfl (does_callk rfl callok64 rfl (impl_isRef.calls (x0 := (gt x0.fIns a4686)) h4720)) ?_
                  rintro _ w4721 ⟨rfl, hn⟩
                  replace HM : Mem w [] w4721 [box b4711 56 [.int .i64 ((gt x0.fIns a4686).fTx), .int .i64 ((gt x0.fIns a4686).fAt)], box b4568 37 [.int .i64 x0.fKind, .int .i64 x0.fMember, p0_0, p0_1]] := HM.call hn
                  refine ops_ex rfl (guard_none rfl) rfl rfl (ex_not rfl rfl) ?_
                  refine ops_nil ?_
                  refine at_then ?_
                  refine run_cond (b := !t4719) rfl (fun hb4722 => ?_) (fun hb4722 => ?_)
                  · replace ho4666 := cond_t hb4722 ho4666
                    refine run_seq ?_
                    refine run_region rfl ?_
                    refine ops_ex rfl (guard_none rfl) rfl rfl (ex_assign rfl rfl) ?_
                    refine ops_nil ?_
                    refine at_then ?_
                    refine run_ret ?_
                    refine at_then_ret ?_
                    refine at_block_ret ?_
                    refine at_then_ret ?_
                    refine at_then_ret ?_
                    refine at_block_ret ?_
                    refine at_then_ret ?_
                    replace HM := (HM.front 0 rfl rfl).drop
                    replace HM := (HM.front 0 rfl rfl).drop
                    have hR := Option.some.inj ho4666
                    subst hR
                    have hT := thn_inl H
                    have hR := Option.some.inj hT
                    subst hR
                    exact at_ret1 rfl rfl ⟨_, rfl, rfl, HM⟩
                  · replace ho4666 := cond_f hb4722 ho4666
                    refine run_skip ?_
                    refine at_then ?_
                    refine run_seq ?_
                    obtain ⟨e4723, ho4666⟩ := chk_some ho4666
                    obtain ⟨t4727, h4728, ho4666⟩ := bind_some ho4666
                    refine run_drawf (fun w_ => Mem w [] w_ [box b4711 56 [.int .i64 ((gt x0.fIns a4686).fTx), .int .i64 ((gt x0.fIns a4686).fAt)], box b4568 37 [.int .i64 x0.fKind, .int .i64 x0.fMember, p0_0, p0_1]]) [(0, true), (1, true), (2, true), (3, true), (4, true), (5, false)] mixed rfl rfl (by kernel_rfl) ?_
                    replace HM := HM.grow (fr_drew _)
                    have hS := Mem.suf (M := []) HM
                    refine drwp_take rfl (guard_none rfl) rfl rfl (fun w_ hS_ => (ex_fieldAddr (off' := 2) rfl rfl Tryz.underlying37 rfl tsz34 rfl)) hS ?_
                    refine drwp_take rfl (guard_none rfl) rfl rfl (fun w_ hS_ => (ex_load1 rfl rfl Tryz.underlying34 rfl ((hS_.box_at 1 rfl) 2 _ rfl))) hS ?_
                    refine drwp_take rfl (guard_none rfl) rfl rfl (fun w_ hS_ => (ex_move rfl rfl)) hS ?_
                    refine drwp_takeE rfl (guard_none rfl) rfl rfl (ex_cutH kRef rfl rfl rfl Tryz.underlying34 tsz56 hp0_0 e4723) hS ?_
                    rintro u4724 hr4726
                    refine drwp_take rfl (guard_none rfl) rfl rfl (fun w_ hS_ => (ex_loadN (cs := [(.int .i64 ((gt x0.fIns a4686).fTx)), (.int .i64 ((gt x0.fIns a4686).fAt))]) rfl rfl Tryz.underlying56 rfl tsz56 rfl ((hS_.box_at 0 rfl).sub 0 2 rfl))) hS ?_
                    refine drwp_one rfl (guard_none rfl) rfl rfl (does_callk rfl callok82 rfl (slices_Contains_impl_Ref.calls (x0 := x0.fIns.take (a4686).toNat) (x1 := (gt x0.fIns a4686)) (HM.rd hr4726) h4728)) ?_
                    rintro _ w4729 ⟨rfl, hn⟩
                    replace HM : Mem w [] w4729 [box b4711 56 [.int .i64 ((gt x0.fIns a4686).fTx), .int .i64 ((gt x0.fIns a4686).fAt)], box b4568 37 [.int .i64 x0.fKind, .int .i64 x0.fMember, p0_0, p0_1]] := HM.call hn
                    refine ⟨Mem.suf (M := []) HM, ?_⟩
                    have hS := Mem.suf (M := []) HM
                    refine drwp_done ?_
                    refine at_then ?_
                    refine run_cond (b := t4727) rfl (fun hb4730 => ?_) (fun hb4730 => ?_)
                    · replace ho4666 := cond_t hb4730 ho4666
                      refine run_seq ?_
                      refine run_region rfl ?_
                      refine ops_ex rfl (guard_none rfl) rfl rfl (ex_assign rfl rfl) ?_
                      refine ops_nil ?_
                      refine at_then ?_
                      refine run_ret ?_
                      refine at_block_ret ?_
                      refine at_then_ret ?_
                      refine at_then_ret ?_
                      refine at_block_ret ?_
                      refine at_then_ret ?_
                      replace HM := (HM.front 0 rfl rfl).drop
                      replace HM := (HM.front 0 rfl rfl).drop
                      have hR := Option.some.inj ho4666
                      subst hR
                      have hT := thn_inl H
                      have hR := Option.some.inj hT
                      subst hR
                      exact at_ret1 rfl rfl ⟨_, rfl, rfl, HM⟩
                    · replace ho4666 := cond_f hb4730 ho4666
                      refine run_skip ?_
                      refine at_block ?_
                      refine at_then ?_
                      refine run_region rfl ?_
                      refine ops_ex rfl (guard_none rfl) rfl rfl (ex_add rfl rfl rfl) ?_
                      refine ops_ex rfl (guard_none rfl) rfl rfl (ex_move rfl rfl) ?_
                      refine ops_nil ?_
                      replace HM := (HM.front 0 rfl rfl).drop
                      exact at_again k4706 (ρ1 := [(1, .pointer (some ⟨b4568, 0, none⟩)), (47, p0_0), (48, .int .i64 (x0.fIns.length : Int)), (49, .int .i64 (wrap64 (a4686 + 1)))]) (Nat.lt_succ_self _) ⟨_, ho4666, rfl, HM⟩ (Sub.cons rfl (Sub.cons rfl (Sub.cons rfl (Sub.cons rfl Sub.nil))))
                · replace ho4666 := cond_f hb4708 ho4666
                  refine run_exit ?_
                  refine at_then_exit ?_
                  refine at_then_exit ?_
                  refine at_block_exit ?_
                  exact at_mid (ρ' := [(1, .pointer (some ⟨b4568, 0, none⟩))]) ⟨(Option.some.inj ho4666), rfl, HM⟩ (Sub.cons rfl Sub.nil)
              · rintro _ w4731 ⟨rfl, rfl, HM⟩
                replace H := (thn_inr H)
                obtain ⟨o4766, ho4767, H⟩ := bind_some H
                refine run_mid (fun ρ_ w_ => Sum.inr () = o4766 ∧ ρ_ = [(1, .pointer (some ⟨b4568, 0, none⟩))] ∧ Mem w [] w_ [box b4568 37 [.int .i64 x0.fKind, .int .i64 x0.fMember, p0_0, p0_1]]) ?_ ?_
                · skip
                  refine run_seq ?_
                  refine run_region rfl ?_
                  refine ops_ex rfl (guard_none rfl) rfl rfl (ex_fieldAddr (off' := 3) rfl rfl Tryz.underlying37 rfl tsz35 rfl) ?_
                  refine ops_ex rfl (guard_none rfl) rfl rfl (ex_load1 rfl rfl Tryz.underlying35 rfl ((HM.box_at 0 rfl) 3 _ rfl)) ?_
                  refine ops_ex rfl (guard_none rfl) rfl rfl (ex_len (d := kOut) (xs := x0.fOuts) rfl rfl Tryz.underlying35 hp0_1) ?_
                  refine ops_ex rfl (guard_none rfl) rfl rfl (ex_move rfl rfl) ?_
                  refine ops_nil ?_
                  refine at_then ?_
                  refine run_block ?_
                  refine run_loop (fun k_ ρ_ w_ => ∃ a4779 : Int, impl_TxFault.l1 x0 k_ a4779 = some o4766 ∧ ρ_ = [(1, .pointer (some ⟨b4568, 0, none⟩)), (65, p0_1), (66, .int .i64 (x0.fOuts.length : Int)), (67, .int .i64 a4779)] ∧ Mem w [] w_ [box b4568 37 [.int .i64 x0.fKind, .int .i64 x0.fMember, p0_0, p0_1]]) k (ρ1 := [(1, .pointer (some ⟨b4568, 0, none⟩)), (65, p0_1), (66, .int .i64 (x0.fOuts.length : Int)), (67, .int .i64 0)]) ⟨_, ho4767, rfl, HM⟩ (Sub.cons rfl (Sub.cons rfl (Sub.cons rfl (Sub.cons rfl Sub.nil)))) ?_
                  clear HM ho4767
                  rintro k4791 _ w4792 ⟨a4779, ho4767, rfl, HM⟩
                  obtain _ | k4791 := k4791
                  · exact nomatch ((impl_TxFault.l1_z x0 a4779).symm.trans ho4767)
                  replace ho4767 := (impl_TxFault.l1_s x0 k4791 a4779).symm.trans ho4767
                  refine run_seq ?_
                  refine run_region rfl ?_
                  refine ops_ex rfl (guard_none rfl) rfl rfl (ex_lss rfl rfl rfl) ?_
                  refine ops_nil ?_
                  refine at_then ?_
                  refine run_seq ?_
                  refine run_cond (b := (decide (a4779 < (x0.fOuts.length : Int)))) rfl (fun hb4793 => ?_) (fun hb4793 => ?_)
                  · replace ho4767 := cond_t hb4793 ho4767
                    refine run_skip ?_
                    refine at_then ?_
                    refine run_seq ?_
                    refine run_block ?_
                    refine run_seq ?_
                    obtain ⟨e4794, ho4767⟩ := chk_some ho4767
                    refine run_region rfl ?_
                    obtain ⟨kv4796, hc4795, hk4797⟩ : ∃ u, CellsAt _ (sb p0_1) (so p0_1 + (a4779).toNat * 4) [(.int .i64 ((gt x0.fOuts a4779).fValue)), u, (.int .i64 ((gt x0.fOuts a4779).fRule.fNeed)), (.int .i64 ((gt x0.fOuts a4779).fRule.fAfter))] ∧ RdS kInt _ u ((gt x0.fOuts a4779).fRule.fKeys) := rd_with1 hp0_1 e4794
                    refine ops_ex rfl (guard_none rfl) rfl rfl (ex_indexAddr (d := kOut) rfl rfl rfl Tryz.underlying35 tsz75 hp0_1 (idx_lo e4794) (idx_hi e4794)) ?_
                    refine ops_ex rfl (guard_none rfl) rfl rfl (ex_loadN (cs := [(.int .i64 ((gt x0.fOuts a4779).fValue)), kv4796, (.int .i64 ((gt x0.fOuts a4779).fRule.fNeed)), (.int .i64 ((gt x0.fOuts a4779).fRule.fAfter))]) rfl rfl Tryz.underlying75 rfl tsz75 rfl ((HM.at_ hc4795).sub 0 4 rfl)) ?_
                    refine ops_does rfl (guard_none rfl) rfl rfl (does_alloc (cs := [.int .i64 0, .slice none 0 0, .int .i64 0, .int .i64 0]) rfl tz75 rfl HM) ?_
                    rintro _ w4801 ⟨b4798, rfl, HM⟩
                    refine ops_doesS rfl (guard_none rfl) rfl (does_store (vs := [.int .i64 ((gt x0.fOuts a4779).fValue), kv4796, .int .i64 ((gt x0.fOuts a4779).fRule.fNeed), .int .i64 ((gt x0.fOuts a4779).fRule.fAfter)]) (cs' := [.int .i64 ((gt x0.fOuts a4779).fValue), kv4796, .int .i64 ((gt x0.fOuts a4779).fRule.fNeed), .int .i64 ((gt x0.fOuts a4779).fRule.fAfter)]) rfl rfl rfl rfl tsz75 (Ones.int (Ones.rd hk4797 (Ones.int (Ones.int Ones.nil)))) rfl rfl HM) ?_
                    rintro w4802 HM
                    refine ops_nil ?_
                    refine at_then ?_
                    refine run_seq ?_
                    obtain ⟨t4803, h4804, ho4767⟩ := bind_some ho4767
                    refine run_region rfl ?_
                    refine ops_ex rfl (guard_none rfl) rfl rfl (ex_loadN (cs := [(.int .i64 ((gt x0.fOuts a4779).fValue)), kv4796, (.int .i64 ((gt x0.fOuts a4779).fRule.fNeed)), (.int .i64 ((gt x0.fOuts a4779).fRule.fAfter))]) rfl rfl Tryz.underlying75 rfl tsz75 rfl ((HM.box_at 0 rfl).sub 0 4 rfl)) ?_
                    refine ops_does rfl (guard_none rfl) rfl rfl (does_callk rfl callok83 rfl (impl_outFault.calls (x0 := (gt x0.fOuts a4779)) (HM.rd hk4797) h4804)) ?_
                    rintro _ w4805 ⟨rfl, hn⟩
                    replace HM : Mem w [] w4805 [box b4798 75 [.int .i64 ((gt x0.fOuts a4779).fValue), kv4796, .int .i64 ((gt x0.fOuts a4779).fRule.fNeed), .int .i64 ((gt x0.fOuts a4779).fRule.fAfter)], box b4568 37 [.int .i64 x0.fKind, .int .i64 x0.fMember, p0_0, p0_1]] := HM.call hn
                    refine ops_ex rfl (guard_none rfl) rfl rfl (ex_assign rfl rfl) ?_
                    refine ops_nil ?_
                    refine at_then ?_
                    refine run_seq ?_
                    refine run_region rfl ?_
                    refine ops_ex rfl (guard_none rfl) rfl rfl (ex_move rfl rfl) ?_
                    refine ops_ex rfl (guard_none rfl) rfl rfl (ex_neq rfl rfl rfl) ?_
                    refine ops_nil ?_
                    refine at_then ?_
                    refine run_cond (b := (t4803 != 0)) rfl (fun hb4806 => ?_) (fun hb4806 => ?_)
                    · replace ho4767 := cond_t hb4806 ho4767
                      refine run_seq ?_
                      refine run_region rfl ?_
                      refine ops_ex rfl (guard_none rfl) rfl rfl (ex_move rfl rfl) ?_
                      refine ops_ex rfl (guard_none rfl) rfl rfl (ex_assign rfl rfl) ?_
                      refine ops_nil ?_
                      refine at_then ?_
                      refine run_ret ?_
                      refine at_block_ret ?_
                      refine at_then_ret ?_
                      refine at_then_ret ?_
                      refine at_block_ret ?_
                      refine at_then_ret ?_
                      replace HM := (HM.front 0 rfl rfl).drop
                      replace HM := (HM.front 0 rfl rfl).drop
                      have hR := Option.some.inj ho4767
                      subst hR
                      have hT := thn_inl H
                      have hR := Option.some.inj hT
                      subst hR
                      exact at_ret1 rfl rfl ⟨_, rfl, rfl, HM⟩
                    · replace ho4767 := cond_f hb4806 ho4767
                      refine run_skip ?_
                      refine at_block ?_
                      refine at_then ?_
                      refine run_region rfl ?_
                      refine ops_ex rfl (guard_none rfl) rfl rfl (ex_add rfl rfl rfl) ?_
                      refine ops_ex rfl (guard_none rfl) rfl rfl (ex_move rfl rfl) ?_
                      refine ops_nil ?_
                      replace HM := (HM.front 0 rfl rfl).drop
                      exact at_again k4791 (ρ1 := [(1, .pointer (some ⟨b4568, 0, none⟩)), (65, p0_1), (66, .int .i64 (x0.fOuts.length : Int)), (67, .int .i64 (wrap64 (a4779 + 1)))]) (Nat.lt_succ_self _) ⟨_, ho4767, rfl, HM⟩ (Sub.cons rfl (Sub.cons rfl (Sub.cons rfl (Sub.cons rfl Sub.nil))))
                  · replace ho4767 := cond_f hb4793 ho4767
                    refine run_exit ?_
                    refine at_then_exit ?_
                    refine at_then_exit ?_
                    refine at_block_exit ?_
                    exact at_mid (ρ' := [(1, .pointer (some ⟨b4568, 0, none⟩))]) ⟨(Option.some.inj ho4767), rfl, HM⟩ (Sub.cons rfl Sub.nil)
                · rintro _ w4807 ⟨rfl, rfl, HM⟩
                  replace H := (thn_inr H)
                  refine run_seq ?_
                  refine run_seq ?_
                  obtain ⟨e4808, H⟩ := chk_some H
                  refine run_meet (fun ρ_ w_ => ρ_ = [(87, .bool ((x0.fKind == 1) && (decide (((gt x0.fOuts (0 : Int)).fValue) < 100))))] ∧ Mem w [] w_ []) ?_ ?_
                  · skip
                    refine run_region rfl ?_
                    refine ops_ex rfl (guard_none rfl) rfl rfl (ex_fieldAddr (off' := 0) rfl rfl Tryz.underlying37 rfl tsz2 rfl) ?_
                    refine ops_ex rfl (guard_none rfl) rfl rfl (ex_load1 rfl rfl Tryz.underlying2 rfl ((HM.box_at 0 rfl) 0 _ rfl)) ?_
                    refine ops_ex rfl (guard_none rfl) rfl rfl (ex_eql rfl rfl rfl) ?_
                    refine ops_ex rfl (guard_none rfl) rfl rfl (ex_move rfl rfl) ?_
                    refine bool_cases (x0.fKind == 1) (fun hg4812 => ?_) (fun hg4812 => ?_)
                    · skip
                      refine ops_ex rfl (guard_on rfl rfl rfl hg4812) rfl rfl (ex_fieldAddr (off' := 3) rfl rfl Tryz.underlying37 rfl tsz35 rfl) ?_
                      refine ops_ex rfl (guard_on rfl rfl rfl hg4812) rfl rfl (ex_load1 rfl rfl Tryz.underlying35 rfl ((HM.box_at 0 rfl) 3 _ rfl)) ?_
                      obtain ⟨kv4810, hc4809, hk4811⟩ : ∃ u, CellsAt _ (sb p0_1) (so p0_1 + ((0 : Int)).toNat * 4) [(.int .i64 ((gt x0.fOuts (0 : Int)).fValue)), u, (.int .i64 ((gt x0.fOuts (0 : Int)).fRule.fNeed)), (.int .i64 ((gt x0.fOuts (0 : Int)).fRule.fAfter))] ∧ RdS kInt _ u ((gt x0.fOuts (0 : Int)).fRule.fKeys) := rd_with1 hp0_1 (or_t e4808 hg4812)
                      refine ops_ex rfl (guard_on rfl rfl rfl hg4812) rfl rfl (ex_indexAddr (d := kOut) rfl rfl rfl Tryz.underlying35 tsz75 hp0_1 (idx_lo (or_t e4808 hg4812)) (idx_hi (or_t e4808 hg4812))) ?_
                      refine ops_ex rfl (guard_on rfl rfl rfl hg4812) rfl rfl (ex_fieldAddr (off' := so p0_1 + ((0 : Int)).toNat * 4) rfl rfl Tryz.underlying75 rfl tsz2 rfl) ?_
                      refine ops_ex rfl (guard_on rfl rfl rfl hg4812) rfl rfl (ex_load1 rfl rfl Tryz.underlying2 rfl ((HM.at_ hc4809) 0 _ rfl)) ?_
                      refine ops_ex rfl (guard_on rfl rfl rfl hg4812) rfl rfl (ex_lss rfl rfl rfl) ?_
                      refine ops_ex (v := .bool ((x0.fKind == 1) && (decide (((gt x0.fOuts (0 : Int)).fValue) < 100)))) rfl (guard_none rfl) rfl rfl (ex_pand_t rfl rfl hg4812 rfl) ?_
                      refine ops_nil ?_
                      replace HM := (HM.front 0 rfl rfl).drop
                      exact at_meet [(87, .bool ((x0.fKind == 1) && (decide (((gt x0.fOuts (0 : Int)).fValue) < 100))))] ⟨rfl, HM⟩ (Sub.cons rfl Sub.nil)
                    · skip
                      refine ops_off rfl (guard_off rfl rfl rfl hg4812) rfl rfl ?_
                      refine ops_off rfl (guard_off rfl rfl rfl hg4812) rfl rfl ?_
                      refine ops_off rfl (guard_off rfl rfl rfl hg4812) rfl rfl ?_
                      refine ops_off rfl (guard_off rfl rfl rfl hg4812) rfl rfl ?_
                      refine ops_off rfl (guard_off rfl rfl rfl hg4812) rfl rfl ?_
                      refine ops_off rfl (guard_off rfl rfl rfl hg4812) rfl rfl ?_
                      have hg4813 : ((x0.fKind == 1) && (decide (((gt x0.fOuts (0 : Int)).fValue) < 100))) = false := by simp only [hg4812, Bool.and_true, Bool.true_and, Bool.and_false, Bool.false_and, Bool.or_true, Bool.true_or, Bool.or_false, Bool.false_or, Bool.not_true, Bool.not_false, Bool.not_not]
                      refine ops_ex (v := .bool ((x0.fKind == 1) && (decide (((gt x0.fOuts (0 : Int)).fValue) < 100)))) rfl (guard_none rfl) rfl rfl (ex_pand_f rfl rfl hg4812) ?_
                      refine ops_nil ?_
                      replace HM := (HM.front 0 rfl rfl).drop
                      exact at_meet [(87, .bool ((x0.fKind == 1) && (decide (((gt x0.fOuts (0 : Int)).fValue) < 100))))] ⟨rfl, HM⟩ (Sub.cons rfl Sub.nil)
                  · rintro _ w4814 ⟨rfl, HM⟩
                    refine at_then ?_
                    refine run_cond (b := ((x0.fKind == 1) && (decide (((gt x0.fOuts (0 : Int)).fValue) < 100)))) rfl (fun hb4815 => ?_) (fun hb4815 => ?_)
                    · replace H := cond_t hb4815 H
                      refine run_seq ?_
                      refine run_region rfl ?_
                      refine ops_ex rfl (guard_none rfl) rfl rfl (ex_assign rfl rfl) ?_
                      refine ops_nil ?_
                      refine at_then ?_
                      refine run_ret ?_
                      refine at_then_ret ?_
                      have hR := Option.some.inj H
                      subst hR
                      exact at_ret1 rfl rfl ⟨_, rfl, rfl, HM⟩
                    · replace H := cond_f hb4815 H
                      refine run_skip ?_
                      refine at_then ?_
                      refine run_seq ?_
                      refine run_region rfl ?_
                      refine ops_ex rfl (guard_none rfl) rfl rfl (ex_assign rfl rfl) ?_
                      refine ops_nil ?_
                      refine at_then ?_
                      refine run_ret ?_
                      have hR := Option.some.inj H
                      subst hR
                      exact at_ret1 rfl rfl ⟨_, rfl, rfl, HM⟩

def impl_findCoin_1.f (k : Nat) (x0 : Coin) (x1 : Ref) : Option Int := ((impl_compareRefs.f k x0.fRef x1).bind fun t4865 => some t4865)
theorem impl_findCoin_1.calls {k : Nat} {x0 : Coin} {x1 : Ref} {p0_0 : Value} {w : World} (hp0_0 : RdS kInt w p0_0 x0.fOut.fRule.fKeys) {r : Int} (H : impl_findCoin_1.f k x0 x1 = some r) :
    Calls Tryz.prog 106 ([.agg #[(.int .i64 x0.fRef.fTx), (.int .i64 x0.fRef.fAt), (.int .i64 x0.fOut.fValue), p0_0, (.int .i64 x0.fOut.fRule.fNeed), (.int .i64 x0.fOut.fRule.fAfter), (.int .i64 x0.fHeight), (.bool x0.fMined)], .agg #[(.int .i64 x1.fTx), (.int .i64 x1.fAt)]] : List Value).toArray w (fun e w_ => ∃ v, e = .returned v ∧ v = (.int .i64 r) ∧ Mem w [] w_ []) := by
  have HM := Mem.start w
  refine calls_run (N := 9) Tryz.func106 rfl rfl rfl rfl ?_
  unfold impl_findCoin_1.f at H
  refine run_seq ?_
  refine run_region rfl ?_
  refine ops_does rfl (guard_none rfl) rfl rfl (does_box (cs := [.int .i64 x0.fRef.fTx, .int .i64 x0.fRef.fAt, .int .i64 x0.fOut.fValue, p0_0, .int .i64 x0.fOut.fRule.fNeed, .int .i64 x0.fOut.fRule.fAfter, .int .i64 x0.fHeight, .bool x0.fMined]) rfl rfl rfl HM) ?_
  rintro _ w4863 ⟨b4857, rfl, HM⟩
  refine ops_does rfl (guard_none rfl) rfl rfl (does_box (cs := [.int .i64 x1.fTx, .int .i64 x1.fAt]) rfl rfl rfl HM) ?_
  rintro _ w4864 ⟨b4860, rfl, HM⟩
  refine ops_ex rfl (guard_none rfl) rfl rfl (ex_assign rfl rfl) ?_
  refine ops_nil ?_
  refine at_then ?_
  refine run_seq ?_
  obtain ⟨t4865, h4866, H⟩ := bind_some H
  refine run_region rfl ?_
  refine ops_ex rfl (guard_none rfl) rfl rfl (ex_fieldAddr (off' := 0) rfl rfl Tryz.underlying77 rfl tsz56 rfl) ?_
  refine ops_ex rfl (guard_none rfl) rfl rfl (ex_loadN (cs := [(.int .i64 x0.fRef.fTx), (.int .i64 x0.fRef.fAt)]) rfl rfl Tryz.underlying56 rfl tsz56 rfl ((HM.box_at 1 rfl).sub 0 2 rfl)) ?_
  refine ops_ex rfl (guard_none rfl) rfl rfl (ex_loadN (cs := [(.int .i64 x1.fTx), (.int .i64 x1.fAt)]) rfl rfl Tryz.underlying56 rfl tsz56 rfl ((HM.box_at 0 rfl).sub 0 2 rfl)) ?_
  refine ops_does rfl (guard_none rfl) rfl rfl (does_callk rfl callok68 rfl (impl_compareRefs.calls (x0 := x0.fRef) (x1 := x1) h4866)) ?_
  rintro _ w4867 ⟨rfl, hn⟩
  replace HM : Mem w [] w4867 [box b4860 56 [.int .i64 x1.fTx, .int .i64 x1.fAt], box b4857 77 [.int .i64 x0.fRef.fTx, .int .i64 x0.fRef.fAt, .int .i64 x0.fOut.fValue, p0_0, .int .i64 x0.fOut.fRule.fNeed, .int .i64 x0.fOut.fRule.fAfter, .int .i64 x0.fHeight, .bool x0.fMined]] := HM.call hn
  refine ops_ex rfl (guard_none rfl) rfl rfl (ex_assign rfl rfl) ?_
  refine ops_nil ?_
  refine at_then ?_
  refine run_ret ?_
  replace HM := (HM.front 0 rfl rfl).drop
  replace HM := (HM.front 0 rfl rfl).drop
  have hR := Option.some.inj H
  subst hR
  exact at_ret1 rfl rfl ⟨_, rfl, rfl, HM⟩

def slices_BinarySearchFunc_impl_Coin.l0 (x0 : List Coin) (x1 : Ref) : Nat → Int → Int → Option Int
  | 0, _, _ => none
  | k + 1, a4945, a4946 => (bif (decide (a4945 < a4946)) then (chk (decide (0 ≤ (1 : Int)) && decide ((1 : Int) ≤ IntKind.u64.bits)) (chk (idxOk (wrap64 ((IntKind.u64.wrap (wrap64 (a4945 + a4946))) / 2 ^ ((1 : Int)).toNat)) x0.length) ((impl_findCoin_1.f k (gt x0 (wrap64 ((IntKind.u64.wrap (wrap64 (a4945 + a4946))) / 2 ^ ((1 : Int)).toNat))) x1).bind fun t4964 => (bif (decide (t4964 < 0)) then slices_BinarySearchFunc_impl_Coin.l0 x0 x1 k (wrap64 ((wrap64 ((IntKind.u64.wrap (wrap64 (a4945 + a4946))) / 2 ^ ((1 : Int)).toNat)) + 1)) a4946 else slices_BinarySearchFunc_impl_Coin.l0 x0 x1 k a4945 (wrap64 ((IntKind.u64.wrap (wrap64 (a4945 + a4946))) / 2 ^ ((1 : Int)).toNat)))))) else some a4945)
theorem slices_BinarySearchFunc_impl_Coin.l0_z (x0 : List Coin) (x1 : Ref) (a4945 : Int) (a4946 : Int) : slices_BinarySearchFunc_impl_Coin.l0 x0 x1 0 a4945 a4946 = none := rfl
theorem slices_BinarySearchFunc_impl_Coin.l0_s (x0 : List Coin) (x1 : Ref) (k : Nat) (a4945 : Int) (a4946 : Int) : slices_BinarySearchFunc_impl_Coin.l0 x0 x1 (k + 1) a4945 a4946 = (bif (decide (a4945 < a4946)) then (chk (decide (0 ≤ (1 : Int)) && decide ((1 : Int) ≤ IntKind.u64.bits)) (chk (idxOk (wrap64 ((IntKind.u64.wrap (wrap64 (a4945 + a4946))) / 2 ^ ((1 : Int)).toNat)) x0.length) ((impl_findCoin_1.f k (gt x0 (wrap64 ((IntKind.u64.wrap (wrap64 (a4945 + a4946))) / 2 ^ ((1 : Int)).toNat))) x1).bind fun t4964 => (bif (decide (t4964 < 0)) then slices_BinarySearchFunc_impl_Coin.l0 x0 x1 k (wrap64 ((wrap64 ((IntKind.u64.wrap (wrap64 (a4945 + a4946))) / 2 ^ ((1 : Int)).toNat)) + 1)) a4946 else slices_BinarySearchFunc_impl_Coin.l0 x0 x1 k a4945 (wrap64 ((IntKind.u64.wrap (wrap64 (a4945 + a4946))) / 2 ^ ((1 : Int)).toNat)))))) else some a4945) := rfl
def slices_BinarySearchFunc_impl_Coin.f (k : Nat) (x0 : List Coin) (x1 : Ref) : Option (Int × Bool) := ((slices_BinarySearchFunc_impl_Coin.l0 x0 x1 k 0 (x0.length : Int)).bind (fun a4933 => (chk (!(decide (a4933 < (x0.length : Int))) || (idxOk a4933 x0.length)) ((bif (decide (a4933 < (x0.length : Int))) then impl_findCoin_1.f k (gt x0 a4933) x1 else some default).bind fun t4973 => some (a4933, ((decide (a4933 < (x0.length : Int))) && (t4973 == 0)))))))
theorem slices_BinarySearchFunc_impl_Coin.calls {k : Nat} {x0 : List Coin} {x1 : Ref} {p0 : Value} {w : World} (hp0 : RdS kCoin w p0 x0) {r : Int × Bool} (H : slices_BinarySearchFunc_impl_Coin.f k x0 x1 = some r) :
    Calls Tryz.prog 105 ([p0, .agg #[(.int .i64 x1.fTx), (.int .i64 x1.fAt)], .func (.func 106) #[] #[]] : List Value).toArray w (fun e w_ => ∃ v, e = .returned v ∧ v = (.tuple #[.int .i64 r.1, .bool r.2]) ∧ Mem w [] w_ []) := by
  have HM := Mem.start w
  refine calls_run (N := 49) Tryz.func105 rfl rfl rfl rfl ?_
  unfold slices_BinarySearchFunc_impl_Coin.f at H
  refine run_seq ?_
  refine run_region rfl ?_
  refine ops_does rfl (guard_none rfl) rfl rfl (does_box (cs := [.int .i64 x1.fTx, .int .i64 x1.fAt]) rfl rfl rfl HM) ?_
  rintro _ w4903 ⟨b4900, rfl, HM⟩
  refine ops_ex rfl (guard_none rfl) rfl rfl (ex_assign rfl rfl) ?_
  refine ops_ex rfl (guard_none rfl) rfl rfl (ex_assign rfl rfl) ?_
  refine ops_nil ?_
  refine at_then ?_
  refine run_seq ?_
  refine run_region rfl ?_
  refine ops_ex rfl (guard_none rfl) rfl rfl (ex_move rfl rfl) ?_
  refine ops_ex rfl (guard_none rfl) rfl rfl (ex_len (d := kCoin) (xs := x0) rfl rfl Tryz.underlying29 hp0) ?_
  refine ops_ex rfl (guard_none rfl) rfl rfl (ex_assign rfl rfl) ?_
  refine ops_nil ?_
  refine at_then ?_
  refine run_seq ?_
  refine run_region rfl ?_
  refine ops_ex rfl (guard_none rfl) rfl rfl (ex_move rfl rfl) ?_
  refine ops_ex rfl (guard_none rfl) rfl rfl (ex_assign rfl rfl) ?_
  refine ops_ex rfl (guard_none rfl) rfl rfl (ex_assign rfl rfl) ?_
  refine ops_nil ?_
  refine at_then ?_
  obtain ⟨o4934, ho4935, H⟩ := bind_some H
  refine run_mid (fun ρ_ w_ => ∃ a4933 : Int, a4933 = o4934 ∧ ρ_ = [(0, p0), (2, .func (.func 106) #[] #[]), (4, .pointer (some ⟨b4900, 0, none⟩)), (8, .int .i64 (x0.length : Int)), (9, .int .i64 a4933)] ∧ Mem w [] w_ [box b4900 56 [.int .i64 x1.fTx, .int .i64 x1.fAt]]) ?_ ?_
  · clear H
    refine run_block ?_
    refine run_loop (fun k_ ρ_ w_ => ∃ a4945 : Int, ∃ a4946 : Int, slices_BinarySearchFunc_impl_Coin.l0 x0 x1 k_ a4945 a4946 = some o4934 ∧ ρ_ = [(0, p0), (2, .func (.func 106) #[] #[]), (4, .pointer (some ⟨b4900, 0, none⟩)), (8, .int .i64 (x0.length : Int)), (9, .int .i64 a4945), (10, .int .i64 a4946)] ∧ Mem w [] w_ [box b4900 56 [.int .i64 x1.fTx, .int .i64 x1.fAt]]) k (ρ1 := [(0, p0), (2, .func (.func 106) #[] #[]), (4, .pointer (some ⟨b4900, 0, none⟩)), (8, .int .i64 (x0.length : Int)), (9, .int .i64 0), (10, .int .i64 (x0.length : Int))]) ⟨_, _, ho4935, rfl, HM⟩ (Sub.cons rfl (Sub.cons rfl (Sub.cons rfl (Sub.cons rfl (Sub.cons rfl (Sub.cons rfl Sub.nil)))))) ?_
    clear HM ho4935
    rintro k4956 _ w4957 ⟨a4945, a4946, ho4935, rfl, HM⟩
    obtain _ | k4956 := k4956
    · exact nomatch ((slices_BinarySearchFunc_impl_Coin.l0_z x0 x1 a4945 a4946).symm.trans ho4935)
    replace ho4935 := (slices_BinarySearchFunc_impl_Coin.l0_s x0 x1 k4956 a4945 a4946).symm.trans ho4935
    refine run_seq ?_
    refine run_seq ?_
    refine run_region rfl ?_
    refine ops_ex rfl (guard_none rfl) rfl rfl (ex_move rfl rfl) ?_
    refine ops_ex rfl (guard_none rfl) rfl rfl (ex_move rfl rfl) ?_
    refine ops_ex rfl (guard_none rfl) rfl rfl (ex_lss rfl rfl rfl) ?_
    refine ops_nil ?_
    refine at_then ?_
    refine run_cond (b := (decide (a4945 < a4946))) rfl (fun hb4958 => ?_) (fun hb4958 => ?_)
    · replace ho4935 := cond_t hb4958 ho4935
      refine run_skip ?_
      refine at_then ?_
      refine run_block ?_
      refine run_seq ?_
      obtain ⟨e4959, ho4935⟩ := chk_some ho4935
      refine run_region rfl ?_
      refine ops_ex rfl (guard_none rfl) rfl rfl (ex_move rfl rfl) ?_
      refine ops_ex rfl (guard_none rfl) rfl rfl (ex_move rfl rfl) ?_
      refine ops_ex rfl (guard_none rfl) rfl rfl (ex_add rfl rfl rfl) ?_
      refine ops_ex rfl (guard_none rfl) rfl rfl (ex_conv rfl rfl (by rw [Tryz.underlying3]; rfl) Tryz.underlying177) ?_
      refine ops_ex rfl (guard_none rfl) rfl rfl (ex_shr rfl rfl rfl e4959) ?_
      refine ops_ex rfl (guard_none rfl) rfl rfl (ex_conv64 rfl rfl (by rw [Tryz.underlying177]; rfl) Tryz.underlying3) ?_
      refine ops_ex rfl (guard_none rfl) rfl rfl (ex_assign rfl rfl) ?_
      refine ops_nil ?_
      refine at_then ?_
      refine run_seq ?_
      obtain ⟨e4960, ho4935⟩ := chk_some ho4935
      obtain ⟨t4964, h4965, ho4935⟩ := bind_some ho4935
      refine run_drawf (fun w_ => Mem w [] w_ [box b4900 56 [.int .i64 x1.fTx, .int .i64 x1.fAt]]) [(0, true), (1, true), (2, true), (3, true), (4, true), (5, true), (6, false), (7, true)] mixed rfl rfl (by kernel_rfl) ?_
      replace HM := HM.grow (fr_drew _)
      have hS := Mem.suf (M := []) HM
      refine drwp_take rfl (guard_none rfl) rfl rfl (fun w_ hS_ => (ex_move rfl rfl)) hS ?_
      refine drwp_take rfl (guard_none rfl) rfl rfl (fun w_ hS_ => (ex_move rfl rfl)) hS ?_
      refine drwp_take rfl (guard_none rfl) rfl rfl (fun w_ hS_ => (ex_move rfl rfl)) hS ?_
      obtain ⟨kv4962, hc4961, hk4963⟩ : ∃ u, CellsAt _ (sb p0) (so p0 + (wrap64 ((IntKind.u64.wrap (wrap64 (a4945 + a4946))) / 2 ^ ((1 : Int)).toNat)).toNat * 8) [(.int .i64 ((gt x0 (wrap64 ((IntKind.u64.wrap (wrap64 (a4945 + a4946))) / 2 ^ ((1 : Int)).toNat))).fRef.fTx)), (.int .i64 ((gt x0 (wrap64 ((IntKind.u64.wrap (wrap64 (a4945 + a4946))) / 2 ^ ((1 : Int)).toNat))).fRef.fAt)), (.int .i64 ((gt x0 (wrap64 ((IntKind.u64.wrap (wrap64 (a4945 + a4946))) / 2 ^ ((1 : Int)).toNat))).fOut.fValue)), u, (.int .i64 ((gt x0 (wrap64 ((IntKind.u64.wrap (wrap64 (a4945 + a4946))) / 2 ^ ((1 : Int)).toNat))).fOut.fRule.fNeed)), (.int .i64 ((gt x0 (wrap64 ((IntKind.u64.wrap (wrap64 (a4945 + a4946))) / 2 ^ ((1 : Int)).toNat))).fOut.fRule.fAfter)), (.int .i64 ((gt x0 (wrap64 ((IntKind.u64.wrap (wrap64 (a4945 + a4946))) / 2 ^ ((1 : Int)).toNat))).fHeight)), (.bool ((gt x0 (wrap64 ((IntKind.u64.wrap (wrap64 (a4945 + a4946))) / 2 ^ ((1 : Int)).toNat))).fMined))] ∧ RdS kInt _ u ((gt x0 (wrap64 ((IntKind.u64.wrap (wrap64 (a4945 + a4946))) / 2 ^ ((1 : Int)).toNat))).fOut.fRule.fKeys) := rd_with1 hp0 e4960
      refine drwp_take rfl (guard_none rfl) rfl rfl (fun w_ hS_ => (ex_indexAddr (d := kCoin) rfl rfl rfl Tryz.underlying29 tsz77 hp0 (idx_lo e4960) (idx_hi e4960))) hS ?_
      refine drwp_take rfl (guard_none rfl) rfl rfl (fun w_ hS_ => (ex_loadN (cs := [(.int .i64 ((gt x0 (wrap64 ((IntKind.u64.wrap (wrap64 (a4945 + a4946))) / 2 ^ ((1 : Int)).toNat))).fRef.fTx)), (.int .i64 ((gt x0 (wrap64 ((IntKind.u64.wrap (wrap64 (a4945 + a4946))) / 2 ^ ((1 : Int)).toNat))).fRef.fAt)), (.int .i64 ((gt x0 (wrap64 ((IntKind.u64.wrap (wrap64 (a4945 + a4946))) / 2 ^ ((1 : Int)).toNat))).fOut.fValue)), kv4962, (.int .i64 ((gt x0 (wrap64 ((IntKind.u64.wrap (wrap64 (a4945 + a4946))) / 2 ^ ((1 : Int)).toNat))).fOut.fRule.fNeed)), (.int .i64 ((gt x0 (wrap64 ((IntKind.u64.wrap (wrap64 (a4945 + a4946))) / 2 ^ ((1 : Int)).toNat))).fOut.fRule.fAfter)), (.int .i64 ((gt x0 (wrap64 ((IntKind.u64.wrap (wrap64 (a4945 + a4946))) / 2 ^ ((1 : Int)).toNat))).fHeight)), (.bool ((gt x0 (wrap64 ((IntKind.u64.wrap (wrap64 (a4945 + a4946))) / 2 ^ ((1 : Int)).toNat))).fMined))]) rfl rfl Tryz.underlying77 rfl tsz77 rfl ((hS_.at_ hc4961).sub 0 8 rfl))) hS ?_
      refine drwp_take rfl (guard_none rfl) rfl rfl (fun w_ hS_ => (ex_loadN (cs := [(.int .i64 x1.fTx), (.int .i64 x1.fAt)]) rfl rfl Tryz.underlying56 rfl tsz56 rfl ((hS_.box_at 0 rfl).sub 0 2 rfl))) hS ?_
      refine drwp_one rfl (guard_none rfl) rfl rfl (does_callvk rfl callok106 rfl rfl rfl (impl_findCoin_1.calls (x0 := (gt x0 (wrap64 ((IntKind.u64.wrap (wrap64 (a4945 + a4946))) / 2 ^ ((1 : Int)).toNat)))) (x1 := x1) (HM.rd hk4963) h4965)) ?_
      rintro _ w4966 ⟨rfl, hn⟩
      replace HM : Mem w [] w4966 [box b4900 56 [.int .i64 x1.fTx, .int .i64 x1.fAt]] := HM.call hn
      refine ⟨Mem.suf (M := []) HM, ?_⟩
      have hS := Mem.suf (M := []) HM
      refine drwp_take rfl (guard_none rfl) rfl rfl (fun w_ hS_ => (ex_lss rfl rfl rfl)) hS ?_
      refine drwp_done ?_
      refine at_then ?_
      refine run_cond (b := (decide (t4964 < 0))) rfl (fun hb4967 => ?_) (fun hb4967 => ?_)
      · replace ho4935 := cond_t hb4967 ho4935
        refine run_region rfl ?_
        refine ops_ex rfl (guard_none rfl) rfl rfl (ex_move rfl rfl) ?_
        refine ops_ex rfl (guard_none rfl) rfl rfl (ex_add rfl rfl rfl) ?_
        refine ops_ex rfl (guard_none rfl) rfl rfl (ex_assign rfl rfl) ?_
        refine ops_nil ?_
        refine at_block ?_
        exact at_again k4956 (ρ1 := [(0, p0), (2, .func (.func 106) #[] #[]), (4, .pointer (some ⟨b4900, 0, none⟩)), (8, .int .i64 (x0.length : Int)), (9, .int .i64 (wrap64 ((wrap64 ((IntKind.u64.wrap (wrap64 (a4945 + a4946))) / 2 ^ ((1 : Int)).toNat)) + 1))), (10, .int .i64 a4946)]) (Nat.lt_succ_self _) ⟨_, _, ho4935, rfl, HM⟩ (Sub.cons rfl (Sub.cons rfl (Sub.cons rfl (Sub.cons rfl (Sub.cons rfl (Sub.cons rfl Sub.nil))))))
      · replace ho4935 := cond_f hb4967 ho4935
        refine run_region rfl ?_
        refine ops_ex rfl (guard_none rfl) rfl rfl (ex_move rfl rfl) ?_
        refine ops_ex rfl (guard_none rfl) rfl rfl (ex_assign rfl rfl) ?_
        refine ops_nil ?_
        refine at_block ?_
        exact at_again k4956 (ρ1 := [(0, p0), (2, .func (.func 106) #[] #[]), (4, .pointer (some ⟨b4900, 0, none⟩)), (8, .int .i64 (x0.length : Int)), (9, .int .i64 a4945), (10, .int .i64 (wrap64 ((IntKind.u64.wrap (wrap64 (a4945 + a4946))) / 2 ^ ((1 : Int)).toNat)))]) (Nat.lt_succ_self _) ⟨_, _, ho4935, rfl, HM⟩ (Sub.cons rfl (Sub.cons rfl (Sub.cons rfl (Sub.cons rfl (Sub.cons rfl (Sub.cons rfl Sub.nil))))))
    · replace ho4935 := cond_f hb4958 ho4935
      refine run_exit ?_
      refine at_then_exit ?_
      refine at_then_exit ?_
      refine at_block_exit ?_
      exact at_mid (ρ' := [(0, p0), (2, .func (.func 106) #[] #[]), (4, .pointer (some ⟨b4900, 0, none⟩)), (8, .int .i64 (x0.length : Int)), (9, .int .i64 a4945)]) ⟨_, (Option.some.inj ho4935), rfl, HM⟩ (Sub.cons rfl (Sub.cons rfl (Sub.cons rfl (Sub.cons rfl (Sub.cons rfl Sub.nil)))))
  · rintro _ w4968 ⟨a4933, rfl, rfl, HM⟩
    refine run_seq ?_
    obtain ⟨e4969, H⟩ := chk_some H
    obtain ⟨t4973, h4974, H⟩ := bind_some H
    refine run_meet (fun ρ_ w_ => ρ_ = [(6, .int .i64 a4933), (7, .bool ((decide (a4933 < (x0.length : Int))) && (t4973 == 0)))] ∧ Mem w [] w_ []) ?_ ?_
    · skip
      refine run_drawf (fun w_ => Mem w [] w_ [box b4900 56 [.int .i64 x1.fTx, .int .i64 x1.fAt]]) [(0, true), (1, true), (2, true), (3, true), (4, true), (5, true), (6, true), (7, true), (8, true), (9, true), (10, true), (11, false), (12, true), (13, true), (14, true), (15, true)] mixed rfl rfl (by kernel_rfl) ?_
      replace HM := HM.grow (fr_drew _)
      have hS := Mem.suf (M := []) HM
      refine drwp_take rfl (guard_none rfl) rfl rfl (fun w_ hS_ => (ex_move rfl rfl)) hS ?_
      refine drwp_take rfl (guard_none rfl) rfl rfl (fun w_ hS_ => (ex_move rfl rfl)) hS ?_
      refine drwp_take rfl (guard_none rfl) rfl rfl (fun w_ hS_ => (ex_move rfl rfl)) hS ?_
      refine drwp_take rfl (guard_none rfl) rfl rfl (fun w_ hS_ => (ex_lss rfl rfl rfl)) hS ?_
      refine drwp_take rfl (guard_none rfl) rfl rfl (fun w_ hS_ => (ex_move rfl rfl)) hS ?_
      refine bool_cases (decide (a4933 < (x0.length : Int))) (fun hg4975 => ?_) (fun hg4975 => ?_)
      · skip
        refine drwp_take rfl (guard_on rfl rfl rfl hg4975) rfl rfl (fun w_ hS_ => (ex_move rfl rfl)) hS ?_
        refine drwp_take rfl (guard_on rfl rfl rfl hg4975) rfl rfl (fun w_ hS_ => (ex_move rfl rfl)) hS ?_
        refine drwp_take rfl (guard_on rfl rfl rfl hg4975) rfl rfl (fun w_ hS_ => (ex_move rfl rfl)) hS ?_
        obtain ⟨kv4971, hc4970, hk4972⟩ : ∃ u, CellsAt _ (sb p0) (so p0 + (a4933).toNat * 8) [(.int .i64 ((gt x0 a4933).fRef.fTx)), (.int .i64 ((gt x0 a4933).fRef.fAt)), (.int .i64 ((gt x0 a4933).fOut.fValue)), u, (.int .i64 ((gt x0 a4933).fOut.fRule.fNeed)), (.int .i64 ((gt x0 a4933).fOut.fRule.fAfter)), (.int .i64 ((gt x0 a4933).fHeight)), (.bool ((gt x0 a4933).fMined))] ∧ RdS kInt _ u ((gt x0 a4933).fOut.fRule.fKeys) := rd_with1 hp0 (or_t e4969 hg4975)
        refine drwp_take rfl (guard_on rfl rfl rfl hg4975) rfl rfl (fun w_ hS_ => (ex_indexAddr (d := kCoin) rfl rfl rfl Tryz.underlying29 tsz77 hp0 (idx_lo (or_t e4969 hg4975)) (idx_hi (or_t e4969 hg4975)))) hS ?_
        refine drwp_take rfl (guard_on rfl rfl rfl hg4975) rfl rfl (fun w_ hS_ => (ex_loadN (cs := [(.int .i64 ((gt x0 a4933).fRef.fTx)), (.int .i64 ((gt x0 a4933).fRef.fAt)), (.int .i64 ((gt x0 a4933).fOut.fValue)), kv4971, (.int .i64 ((gt x0 a4933).fOut.fRule.fNeed)), (.int .i64 ((gt x0 a4933).fOut.fRule.fAfter)), (.int .i64 ((gt x0 a4933).fHeight)), (.bool ((gt x0 a4933).fMined))]) rfl rfl Tryz.underlying77 rfl tsz77 rfl ((hS_.at_ hc4970).sub 0 8 rfl))) hS ?_
        refine drwp_take rfl (guard_on rfl rfl rfl hg4975) rfl rfl (fun w_ hS_ => (ex_loadN (cs := [(.int .i64 x1.fTx), (.int .i64 x1.fAt)]) rfl rfl Tryz.underlying56 rfl tsz56 rfl ((hS_.box_at 0 rfl).sub 0 2 rfl))) hS ?_
        refine drwp_one rfl (guard_on rfl rfl rfl hg4975) rfl rfl (does_callvk rfl callok106 rfl rfl rfl (impl_findCoin_1.calls (x0 := (gt x0 a4933)) (x1 := x1) (HM.rd hk4972) (cond_t hg4975 h4974))) ?_
        rintro _ w4976 ⟨rfl, hn⟩
        replace HM : Mem w [] w4976 [box b4900 56 [.int .i64 x1.fTx, .int .i64 x1.fAt]] := HM.call hn
        refine ⟨Mem.suf (M := []) HM, ?_⟩
        have hS := Mem.suf (M := []) HM
        refine drwp_take rfl (guard_on rfl rfl rfl hg4975) rfl rfl (fun w_ hS_ => (ex_eql rfl rfl rfl)) hS ?_
        refine drwp_take (v := .bool ((decide (a4933 < (x0.length : Int))) && (t4973 == 0))) rfl (guard_none rfl) rfl rfl (fun w_ hS_ => (ex_pand_t rfl rfl hg4975 rfl)) hS ?_
        refine drwp_take rfl (guard_none rfl) rfl rfl (fun w_ hS_ => (ex_assign rfl rfl)) hS ?_
        refine drwp_take rfl (guard_none rfl) rfl rfl (fun w_ hS_ => (ex_assign rfl rfl)) hS ?_
        refine drwp_done ?_
        replace HM := (HM.front 0 rfl rfl).drop
        exact at_meet [(6, .int .i64 a4933), (7, .bool ((decide (a4933 < (x0.length : Int))) && (t4973 == 0)))] ⟨rfl, HM⟩ (Sub.cons rfl (Sub.cons rfl Sub.nil))
      · skip
        refine drwp_off rfl (guard_off rfl rfl rfl hg4975) rfl rfl hS ?_
        refine drwp_off rfl (guard_off rfl rfl rfl hg4975) rfl rfl hS ?_
        refine drwp_off rfl (guard_off rfl rfl rfl hg4975) rfl rfl hS ?_
        refine drwp_off rfl (guard_off rfl rfl rfl hg4975) rfl rfl hS ?_
        refine drwp_off rfl (guard_off rfl rfl rfl hg4975) rfl rfl hS ?_
        refine drwp_off rfl (guard_off rfl rfl rfl hg4975) rfl rfl hS ?_
        refine drwp_off1 rfl (guard_off rfl rfl rfl hg4975) rfl rfl ⟨hS, ?_⟩
        refine drwp_off rfl (guard_off rfl rfl rfl hg4975) rfl rfl hS ?_
        have hg4977 : ((decide (a4933 < (x0.length : Int))) && (t4973 == 0)) = false := by simp only [hg4975, Bool.and_true, Bool.true_and, Bool.and_false, Bool.false_and, Bool.or_true, Bool.true_or, Bool.or_false, Bool.false_or, Bool.not_true, Bool.not_false, Bool.not_not]
        refine drwp_take (v := .bool ((decide (a4933 < (x0.length : Int))) && (t4973 == 0))) rfl (guard_none rfl) rfl rfl (fun w_ hS_ => (ex_pand_f rfl rfl hg4975)) hS ?_
        refine drwp_take rfl (guard_none rfl) rfl rfl (fun w_ hS_ => (ex_assign rfl rfl)) hS ?_
        refine drwp_take rfl (guard_none rfl) rfl rfl (fun w_ hS_ => (ex_assign rfl rfl)) hS ?_
        refine drwp_done ?_
        replace HM := (HM.front 0 rfl rfl).drop
        exact at_meet [(6, .int .i64 a4933), (7, .bool ((decide (a4933 < (x0.length : Int))) && (t4973 == 0)))] ⟨rfl, HM⟩ (Sub.cons rfl (Sub.cons rfl Sub.nil))
    · rintro _ w4978 ⟨rfl, HM⟩
      refine at_then ?_
      refine run_ret ?_
      have hR := Option.some.inj H
      subst hR
      exact at_ret2 rfl rfl rfl ⟨_, rfl, rfl, HM⟩
end Go.Proofs.YtcamddjlhchkfaaGreat.Zk
