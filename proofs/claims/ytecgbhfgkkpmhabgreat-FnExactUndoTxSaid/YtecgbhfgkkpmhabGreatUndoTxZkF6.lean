/- What functions of the program compute, each as a plain function, and that they do. Conditions: as each theorem states them. -/
import Derived.Test.YtecgbhfgkkpmhabGreatUndoTxZkF5
namespace Go.Proofs.YtecgbhfgkkpmhabGreat.Zk
open Go Go.RowKit Go.IntWalk Go.Proofs
set_option linter.unusedVariables false
set_option linter.unusedSimpArgs false
set_option maxRecDepth 100000
set_option maxHeartbeats 4000000
def impl_TxFault_1.f (k : Nat) (x0 : Int) : Option Bool := some ((decide (x0 < 1)) || (decide (4 < x0)))
theorem impl_TxFault_1.calls {k : Nat} {x0 : Int}  {w : World}  {r : Bool} (H : impl_TxFault_1.f k x0 = some r) :
    Calls Tryz.prog 58 ([.int .i64 x0] : List Value).toArray w (fun e w_ => ∃ v, e = .returned v ∧ v = (.bool r) ∧ Mem w [] w_ []) := by
  have HM := Mem.start w
  refine calls_run (N := 9) Tryz.func58 rfl rfl rfl rfl ?_
  unfold impl_TxFault_1.f at H
  refine run_seq ?_
  refine run_region rfl ?_
  refine ox rfl rfl rfl rfl (ex_assign rfl rfl) ?_
  refine ops_nil (at_then (run_seq ?_))
  refine run_meet (fun ρ_ w_ => ρ_ = [(2, .bool ((decide (x0 < 1)) || (decide (4 < x0))))] ∧ Mem w [] w_ []) ?_ ?_
  · skip
    refine run_region rfl ?_
    refine ox rfl rfl rfl rfl (ex_move rfl rfl) ?_
    refine ox rfl rfl rfl rfl (ex_lss rfl rfl rfl) ?_
    refine ox rfl rfl rfl rfl (ex_move rfl rfl) ?_
    refine bool_cases (decide (x0 < 1)) (fun hg4537 => ?_) (fun hg4537 => ?_)
    · skip
      refine ops_off rfl (guard_off rfl rfl rfl hg4537) rfl rfl ?_
      refine ops_off rfl (guard_off rfl rfl rfl hg4537) rfl rfl ?_
      have hg4538 : ((decide (x0 < 1)) || (decide (4 < x0))) = true := by simp only [hg4537, Bool.and_true, Bool.true_and, Bool.and_false, Bool.false_and, Bool.or_true, Bool.true_or, Bool.or_false, Bool.false_or, Bool.not_true, Bool.not_false, Bool.not_not]
      refine ops_ex (v := .bool ((decide (x0 < 1)) || (decide (4 < x0)))) rfl (guard_none rfl) rfl rfl (ex_por_t rfl rfl hg4537) ?_
      refine ox rfl rfl rfl rfl (ex_assign rfl rfl) ?_
      refine ops_nil ?_
      exact at_meet [(2, .bool ((decide (x0 < 1)) || (decide (4 < x0))))] ⟨rfl, HM⟩ (Sub.cons rfl Sub.nil)
    · skip
      refine ops_ex rfl (guard_on rfl rfl rfl hg4537) rfl rfl (ex_move rfl rfl) ?_
      refine ops_ex rfl (guard_on rfl rfl rfl hg4537) rfl rfl (ex_gtr rfl rfl rfl) ?_
      refine ops_ex (v := .bool ((decide (x0 < 1)) || (decide (4 < x0)))) rfl (guard_none rfl) rfl rfl (ex_por_f rfl rfl hg4537 rfl) ?_
      refine ox rfl rfl rfl rfl (ex_assign rfl rfl) ?_
      refine ops_nil ?_
      exact at_meet [(2, .bool ((decide (x0 < 1)) || (decide (4 < x0))))] ⟨rfl, HM⟩ (Sub.cons rfl Sub.nil)
  · rintro _ w4539 ⟨rfl, HM⟩
    refine at_then ?_
    refine run_ret ?_
    have hR := Option.some.inj H
    subst hR
    exact at_ret1 rfl rfl ⟨_, rfl, rfl, HM⟩

def slices_Index_impl_Ref.l0 (x0 : List Ref) (x1 : Ref) : Nat → Int → Option (Int ⊕ Unit)
  | 0, _ => none
  | k + 1, a4616 => (bif (decide (a4616 < (x0.length : Int))) then (chk (idxOk a4616 x0.length) (bif ((x1.fTx == ((gt x0 a4616).fTx)) && (x1.fAt == ((gt x0 a4616).fAt))) then some (.inl a4616) else slices_Index_impl_Ref.l0 x0 x1 k (wrap64 (a4616 + 1)))) else some (.inr ()))
theorem slices_Index_impl_Ref.l0_z (x0 : List Ref) (x1 : Ref) (a4616 : Int) : slices_Index_impl_Ref.l0 x0 x1 0 a4616 = none := rfl
theorem slices_Index_impl_Ref.l0_s (x0 : List Ref) (x1 : Ref) (k : Nat) (a4616 : Int) : slices_Index_impl_Ref.l0 x0 x1 (k + 1) a4616 = (bif (decide (a4616 < (x0.length : Int))) then (chk (idxOk a4616 x0.length) (bif ((x1.fTx == ((gt x0 a4616).fTx)) && (x1.fAt == ((gt x0 a4616).fAt))) then some (.inl a4616) else slices_Index_impl_Ref.l0 x0 x1 k (wrap64 (a4616 + 1)))) else some (.inr ())) := rfl
def slices_Index_impl_Ref.f (k : Nat) (x0 : List Ref) (x1 : Ref) : Option Int := ((slices_Index_impl_Ref.l0 x0 x1 k 0).bind fun o4610 => thn o4610 (fun r => some r) (fun _ => some (-1)))
theorem slices_Index_impl_Ref.calls {k : Nat} {x0 : List Ref} {x1 : Ref} {p0 : Value} {w : World} (hp0 : RdS kRef w p0 x0) {r : Int} (H : slices_Index_impl_Ref.f k x0 x1 = some r) :
    Calls Tryz.prog 84 ([p0, .agg #[(.int .i64 x1.fTx), (.int .i64 x1.fAt)]] : List Value).toArray w (fun e w_ => ∃ v, e = .returned v ∧ v = (.int .i64 r) ∧ Mem w [] w_ []) := by
  have HM := Mem.start w
  refine calls_run (N := 19) Tryz.func84 rfl rfl rfl rfl ?_
  unfold slices_Index_impl_Ref.f at H
  refine run_seq ?_
  refine run_region rfl ?_
  refine od rfl rfl rfl rfl (does_box (cs := [.int .i64 x1.fTx, .int .i64 x1.fAt]) rfl rfl rfl HM) ?_
  rintro _ w4596 ⟨b4593, rfl, HM⟩
  refine ox rfl rfl rfl rfl (ex_assign rfl rfl) ?_
  refine ops_nil (at_then ?_)
  obtain ⟨o4610, ho4611, H⟩ := bind_some H
  refine run_mid (fun ρ_ w_ => Sum.inr () = o4610 ∧ ρ_ = [] ∧ Mem w [] w_ []) ?_ ?_
  · skip
    refine run_seq ?_
    refine run_region rfl ?_
    refine ox rfl rfl rfl rfl (ex_move rfl rfl) ?_
    refine ox rfl rfl rfl rfl (ex_len (d := kRef) (xs := x0) rfl rfl Tryz.underlying34 hp0) ?_
    refine ox rfl rfl rfl rfl (ex_move rfl rfl) ?_
    refine ops_nil (at_then ?_)
    refine run_block ?_
    refine run_loop (fun k_ ρ_ w_ => ∃ a4616 : Int, slices_Index_impl_Ref.l0 x0 x1 k_ a4616 = some o4610 ∧ ρ_ = [(0, p0), (3, .pointer (some ⟨b4593, 0, none⟩)), (7, .int .i64 (x0.length : Int)), (8, .int .i64 a4616)] ∧ Mem w [] w_ [box b4593 66 [.int .i64 x1.fTx, .int .i64 x1.fAt]]) k (ρ1 := [(0, p0), (3, .pointer (some ⟨b4593, 0, none⟩)), (7, .int .i64 (x0.length : Int)), (8, .int .i64 0)]) ⟨_, ho4611, rfl, HM⟩ (Sub.cons rfl (Sub.cons rfl (Sub.cons rfl (Sub.cons rfl Sub.nil)))) ?_
    clear HM ho4611
    rintro k4621 _ w4622 ⟨a4616, ho4611, rfl, HM⟩
    obtain _ | k4621 := k4621
    · exact nomatch ((slices_Index_impl_Ref.l0_z x0 x1 a4616).symm.trans ho4611)
    replace ho4611 := (slices_Index_impl_Ref.l0_s x0 x1 k4621 a4616).symm.trans ho4611
    refine run_seq ?_
    refine run_region rfl ?_
    refine ox rfl rfl rfl rfl (ex_lss rfl rfl rfl) ?_
    refine ops_nil (at_then (run_seq ?_))
    refine run_cond (b := (decide (a4616 < (x0.length : Int)))) rfl (fun hb4623 => ?_) (fun hb4623 => ?_)
    · replace ho4611 := cond_t hb4623 ho4611
      refine run_skip ?_
      refine at_then ?_
      refine run_seq ?_
      refine run_block ?_
      refine run_seq ?_
      refine run_region rfl ?_
      refine ox rfl rfl rfl rfl (ex_move rfl rfl) ?_
      refine ox rfl rfl rfl rfl (ex_assign rfl rfl) ?_
      refine ops_nil (at_then (run_seq ?_))
      obtain ⟨e4624, ho4611⟩ := chk_some ho4611
      refine run_drawf (fun w_ => Mem w [] w_ [box b4593 66 [.int .i64 x1.fTx, .int .i64 x1.fAt]]) [(0, true), (1, true), (2, true), (3, true), (4, true), (5, true)] mixed rfl rfl (by kernel_rfl) ?_
      replace HM := HM.grow (fr_drew _)
      have hS := Mem.suf (M := []) HM
      refine drwp_take rfl (guard_none rfl) rfl rfl (fun w_ hS_ => (ex_loadN (cs := [(.int .i64 x1.fTx), (.int .i64 x1.fAt)]) rfl rfl Tryz.underlying66 rfl tsz66 rfl ((hS_.box_at 0 rfl).sub 0 2 rfl))) hS ?_
      refine dp rfl rfl rfl rfl (ex_move rfl rfl) hS ?_
      refine dp rfl rfl rfl rfl (ex_move rfl rfl) hS ?_
      have hc4625 : CellsAt _ (sb p0) (so p0 + (a4616).toNat * 2) [(.int .i64 ((gt x0 a4616).fTx)), (.int .i64 ((gt x0 a4616).fAt))] := rd_plain hp0 e4624
      refine dp rfl rfl rfl rfl (ex_indexAddr (d := kRef) rfl rfl rfl Tryz.underlying34 tsz66 hp0 (idx_lo e4624) (idx_hi e4624)) hS ?_
      refine drwp_take rfl (guard_none rfl) rfl rfl (fun w_ hS_ => (ex_loadN (cs := [(.int .i64 ((gt x0 a4616).fTx)), (.int .i64 ((gt x0 a4616).fAt))]) rfl rfl Tryz.underlying66 rfl tsz66 rfl ((hS_.at_ hc4625).sub 0 2 rfl))) hS ?_
      refine dp rfl rfl rfl rfl (ex_aeql rfl rfl rfl (by kernel_rfl) (eqs66 _ _ _ _ _)) hS ?_
      refine drwp_done ?_
      refine at_then ?_
      refine run_cond (b := ((x1.fTx == ((gt x0 a4616).fTx)) && (x1.fAt == ((gt x0 a4616).fAt)))) rfl (fun hb4626 => ?_) (fun hb4626 => ?_)
      · replace ho4611 := cond_t hb4626 ho4611
        refine run_seq ?_
        refine run_region rfl ?_
        refine ox rfl rfl rfl rfl (ex_move rfl rfl) ?_
        refine ox rfl rfl rfl rfl (ex_assign rfl rfl) ?_
        refine ops_nil (at_then ?_)
        refine run_ret ?_
        refine at_block_ret ?_
        refine at_then_ret ?_
        refine at_then_ret ?_
        refine at_block_ret ?_
        refine at_then_ret ?_
        replace HM := (HM.front 0 rfl rfl).drop
        have hR := Option.some.inj ho4611
        subst hR
        have hT := thn_inl H
        have hR := Option.some.inj hT
        subst hR
        exact at_ret1 rfl rfl ⟨_, rfl, rfl, HM⟩
      · replace ho4611 := cond_f hb4626 ho4611
        refine run_skip ?_
        refine at_block ?_
        refine at_then ?_
        refine run_region rfl ?_
        refine ox rfl rfl rfl rfl (ex_add rfl rfl rfl) ?_
        refine ox rfl rfl rfl rfl (ex_move rfl rfl) ?_
        refine ops_nil ?_
        exact at_again k4621 (ρ1 := [(0, p0), (3, .pointer (some ⟨b4593, 0, none⟩)), (7, .int .i64 (x0.length : Int)), (8, .int .i64 (wrap64 (a4616 + 1)))]) (Nat.lt_succ_self _) ⟨_, ho4611, rfl, HM⟩ (Sub.cons rfl (Sub.cons rfl (Sub.cons rfl (Sub.cons rfl Sub.nil))))
    · replace ho4611 := cond_f hb4623 ho4611
      refine run_exit ?_
      refine at_then_exit ?_
      refine at_then_exit ?_
      refine at_block_exit ?_
      replace HM := (HM.front 0 rfl rfl).drop
      exact at_mid (ρ' := []) ⟨(Option.some.inj ho4611), rfl, HM⟩ Sub.nil
  · rintro _ w4627 ⟨rfl, rfl, HM⟩
    replace H := (thn_inr H)
    refine run_seq ?_
    refine run_region rfl ?_
    refine ox rfl rfl rfl rfl (ex_assign rfl rfl) ?_
    refine ops_nil (at_then ?_)
    refine run_ret ?_
    have hR := Option.some.inj H
    subst hR
    exact at_ret1 rfl rfl ⟨_, rfl, rfl, HM⟩

def slices_Contains_impl_Ref.f (k : Nat) (x0 : List Ref) (x1 : Ref) : Option Bool := ((slices_Index_impl_Ref.f k x0 x1).bind fun t4634 => some (decide (0 ≤ t4634)))
theorem slices_Contains_impl_Ref.calls {k : Nat} {x0 : List Ref} {x1 : Ref} {p0 : Value} {w : World} (hp0 : RdS kRef w p0 x0) {r : Bool} (H : slices_Contains_impl_Ref.f k x0 x1 = some r) :
    Calls Tryz.prog 60 ([p0, .agg #[(.int .i64 x1.fTx), (.int .i64 x1.fAt)]] : List Value).toArray w (fun e w_ => ∃ v, e = .returned v ∧ v = (.bool r) ∧ Mem w [] w_ []) := by
  have HM := Mem.start w
  refine calls_run (N := 9) Tryz.func60 rfl rfl rfl rfl ?_
  unfold slices_Contains_impl_Ref.f at H
  refine run_seq ?_
  refine run_region rfl ?_
  refine od rfl rfl rfl rfl (does_box (cs := [.int .i64 x1.fTx, .int .i64 x1.fAt]) rfl rfl rfl HM) ?_
  rintro _ w4633 ⟨b4630, rfl, HM⟩
  refine ox rfl rfl rfl rfl (ex_assign rfl rfl) ?_
  refine ops_nil (at_then (run_seq ?_))
  obtain ⟨t4634, h4635, H⟩ := bind_some H
  refine run_region rfl ?_
  refine ox rfl rfl rfl rfl (ex_move rfl rfl) ?_
  refine ox rfl rfl rfl rfl (ex_loadN (cs := [(.int .i64 x1.fTx), (.int .i64 x1.fAt)]) rfl rfl Tryz.underlying66 rfl tsz66 rfl ((HM.box_at 0 rfl).sub 0 2 rfl)) ?_
  refine od rfl rfl rfl rfl (does_callk rfl callok84 rfl (slices_Index_impl_Ref.calls (x0 := x0) (x1 := x1) (HM.rd hp0) h4635)) ?_
  rintro _ w4636 ⟨rfl, hn⟩
  replace HM : Mem w [] w4636 [box b4630 66 [.int .i64 x1.fTx, .int .i64 x1.fAt]] := HM.call hn
  refine ox rfl rfl rfl rfl (ex_geq rfl rfl rfl) ?_
  refine ox rfl rfl rfl rfl (ex_assign rfl rfl) ?_
  refine ops_nil (at_then ?_)
  refine run_ret ?_
  replace HM := (HM.front 0 rfl rfl).drop
  have hR := Option.some.inj H
  subst hR
  exact at_ret1 rfl rfl ⟨_, rfl, rfl, HM⟩

def impl_outFault.f (k : Nat) (x0 : Out) : Option Int := ((impl_within.f k x0.fValue 1 1000000).bind fun t4701 => (bif !t4701 then some 3 else ((impl_RuleFault.f k x0.fRule).bind fun t4705 => some t4705)))
theorem impl_outFault.calls {k : Nat} {x0 : Out} {p0_0 : Value} {w : World} (hp0_0 : RdS kInt w p0_0 x0.fRule.fKeys) {r : Int} (H : impl_outFault.f k x0 = some r) :
    Calls Tryz.prog 61 ([.agg #[(.int .i64 x0.fValue), p0_0, (.int .i64 x0.fRule.fNeed), (.int .i64 x0.fRule.fAfter)]] : List Value).toArray w (fun e w_ => ∃ v, e = .returned v ∧ v = (.int .i64 r) ∧ Mem w [] w_ []) := by
  have HM := Mem.start w
  refine calls_run (N := 10) Tryz.func61 rfl rfl rfl rfl ?_
  unfold impl_outFault.f at H
  refine run_seq ?_
  refine run_region rfl ?_
  refine od rfl rfl rfl rfl (does_box (cs := [.int .i64 x0.fValue, p0_0, .int .i64 x0.fRule.fNeed, .int .i64 x0.fRule.fAfter]) rfl rfl rfl HM) ?_
  rintro _ w4700 ⟨b4697, rfl, HM⟩
  refine ox rfl rfl rfl rfl (ex_assign rfl rfl) ?_
  refine ops_nil (at_then (run_seq ?_))
  refine run_seq ?_
  obtain ⟨t4701, h4702, H⟩ := bind_some H
  refine run_region rfl ?_
  refine ox rfl rfl rfl rfl (ex_fieldAddr (off' := 0) rfl rfl Tryz.underlying70 rfl tsz2 rfl) ?_
  refine ox rfl rfl rfl rfl (ex_load1 rfl rfl Tryz.underlying2 rfl ((HM.box_at 0 rfl) 0 _ rfl)) ?_
  refine od rfl rfl rfl rfl (does_callk rfl callok55 rfl (impl_within.calls (x0 := x0.fValue) (x1 := 1) (x2 := 1000000) h4702)) ?_
  rintro _ w4703 ⟨rfl, hn⟩
  replace HM : Mem w [] w4703 [box b4697 70 [.int .i64 x0.fValue, p0_0, .int .i64 x0.fRule.fNeed, .int .i64 x0.fRule.fAfter]] := HM.call hn
  refine ox rfl rfl rfl rfl (ex_not rfl rfl) ?_
  refine ops_nil (at_then ?_)
  refine run_cond (b := !t4701) rfl (fun hb4704 => ?_) (fun hb4704 => ?_)
  · replace H := cond_t hb4704 H
    refine run_seq ?_
    refine run_region rfl ?_
    refine ox rfl rfl rfl rfl (ex_assign rfl rfl) ?_
    refine ops_nil (at_then ?_)
    refine run_ret ?_
    refine at_then_ret ?_
    replace HM := (HM.front 0 rfl rfl).drop
    have hR := Option.some.inj H
    subst hR
    exact at_ret1 rfl rfl ⟨_, rfl, rfl, HM⟩
  · replace H := cond_f hb4704 H
    refine run_skip ?_
    refine at_then ?_
    refine run_seq ?_
    obtain ⟨t4705, h4706, H⟩ := bind_some H
    refine run_region rfl ?_
    refine ox rfl rfl rfl rfl (ex_fieldAddr (off' := 1) rfl rfl Tryz.underlying70 rfl tsz68 rfl) ?_
    refine ox rfl rfl rfl rfl (ex_loadN (cs := [p0_0, (.int .i64 x0.fRule.fNeed), (.int .i64 x0.fRule.fAfter)]) rfl rfl Tryz.underlying68 rfl tsz68 rfl ((HM.box_at 0 rfl).sub 1 3 rfl)) ?_
    refine od rfl rfl rfl rfl (does_callk rfl callok56 rfl (impl_RuleFault.calls (x0 := x0.fRule) (HM.rd hp0_0) h4706)) ?_
    rintro _ w4707 ⟨rfl, hn⟩
    replace HM : Mem w [] w4707 [box b4697 70 [.int .i64 x0.fValue, p0_0, .int .i64 x0.fRule.fNeed, .int .i64 x0.fRule.fAfter]] := HM.call hn
    refine ox rfl rfl rfl rfl (ex_assign rfl rfl) ?_
    refine ops_nil (at_then ?_)
    refine run_ret ?_
    replace HM := (HM.front 0 rfl rfl).drop
    have hR := Option.some.inj H
    subst hR
    exact at_ret1 rfl rfl ⟨_, rfl, rfl, HM⟩

def impl_TxFault.l0 (x0 : Tx) : Nat → Int → Option (Int ⊕ Unit)
  | 0, _ => none
  | k + 1, a4859 => (bif (decide (a4859 < (x0.fIns.length : Int))) then (chk (idxOk a4859 x0.fIns.length) ((impl_isRef.f k (gt x0.fIns a4859)).bind fun t4892 => (bif !t4892 then some (.inl 3) else (chk (cutOk a4859 x0.fIns.length) ((slices_Contains_impl_Ref.f k (x0.fIns.take (a4859).toNat) (gt x0.fIns a4859)).bind fun t4900 => (bif t4900 then some (.inl 7) else impl_TxFault.l0 x0 k (wrap64 (a4859 + 1)))))))) else some (.inr ()))
theorem impl_TxFault.l0_z (x0 : Tx) (a4859 : Int) : impl_TxFault.l0 x0 0 a4859 = none := rfl
theorem impl_TxFault.l0_s (x0 : Tx) (k : Nat) (a4859 : Int) : impl_TxFault.l0 x0 (k + 1) a4859 = (bif (decide (a4859 < (x0.fIns.length : Int))) then (chk (idxOk a4859 x0.fIns.length) ((impl_isRef.f k (gt x0.fIns a4859)).bind fun t4892 => (bif !t4892 then some (.inl 3) else (chk (cutOk a4859 x0.fIns.length) ((slices_Contains_impl_Ref.f k (x0.fIns.take (a4859).toNat) (gt x0.fIns a4859)).bind fun t4900 => (bif t4900 then some (.inl 7) else impl_TxFault.l0 x0 k (wrap64 (a4859 + 1)))))))) else some (.inr ())) := rfl
def impl_TxFault.l1 (x0 : Tx) : Nat → Int → Option (Int ⊕ Unit)
  | 0, _ => none
  | k + 1, a4952 => (bif (decide (a4952 < (x0.fOuts.length : Int))) then (chk (idxOk a4952 x0.fOuts.length) ((impl_outFault.f k (gt x0.fOuts a4952)).bind fun t4976 => (bif (t4976 != 0) then some (.inl t4976) else impl_TxFault.l1 x0 k (wrap64 (a4952 + 1))))) else some (.inr ()))
theorem impl_TxFault.l1_z (x0 : Tx) (a4952 : Int) : impl_TxFault.l1 x0 0 a4952 = none := rfl
theorem impl_TxFault.l1_s (x0 : Tx) (k : Nat) (a4952 : Int) : impl_TxFault.l1 x0 (k + 1) a4952 = (bif (decide (a4952 < (x0.fOuts.length : Int))) then (chk (idxOk a4952 x0.fOuts.length) ((impl_outFault.f k (gt x0.fOuts a4952)).bind fun t4976 => (bif (t4976 != 0) then some (.inl t4976) else impl_TxFault.l1 x0 k (wrap64 (a4952 + 1))))) else some (.inr ())) := rfl
def impl_TxFault.f (k : Nat) (x0 : Tx) : Option Int := ((impl_within.f k x0.fKind 0 2).bind fun t4756 => (bif ((!t4756) || ((x0.fKind == 0) != (x0.fMember == 0))) then some 1 else ((bif (x0.fMember != 0) then impl_isKey.f k x0.fMember else some default).bind fun t4763 => (bif ((x0.fMember != 0) && (!t4763)) then some 3 else ((impl_TxFault_1.f k (x0.fIns.length : Int)).bind fun t4770 => ((bif (!t4770) then impl_TxFault_1.f k (x0.fOuts.length : Int) else some default).bind fun t4772 => (bif (t4770 || t4772) then some 2 else ((impl_TxFault.l0 x0 k 0).bind fun o4838 => thn o4838 (fun r => some r) (fun _ => ((impl_TxFault.l1 x0 k 0).bind fun o4939 => thn o4939 (fun r => some r) (fun _ => (chk (!(x0.fKind == 1) || (idxOk (0 : Int) x0.fOuts.length)) (bif ((x0.fKind == 1) && (decide (((gt x0.fOuts (0 : Int)).fValue) < 100))) then some 8 else some 0)))))))))))))
theorem impl_TxFault.calls {k : Nat} {x0 : Tx} {p0_0 : Value} {p0_1 : Value} {w : World} (hp0_0 : RdS kRef w p0_0 x0.fIns) (hp0_1 : RdS kOut w p0_1 x0.fOuts) {r : Int} (H : impl_TxFault.f k x0 = some r) :
    Calls Tryz.prog 31 ([.agg #[(.int .i64 x0.fKind), (.int .i64 x0.fMember), p0_0, p0_1]] : List Value).toArray w (fun e w_ => ∃ v, e = .returned v ∧ v = (.int .i64 r) ∧ Mem w [] w_ []) := by
  have HM := Mem.start w
  refine calls_run (N := 88) Tryz.func31 rfl rfl rfl rfl ?_
  unfold impl_TxFault.f at H
  refine run_seq ?_
  refine run_region rfl ?_
  refine od rfl rfl rfl rfl (does_box (cs := [.int .i64 x0.fKind, .int .i64 x0.fMember, p0_0, p0_1]) rfl rfl rfl HM) ?_
  rintro _ w4744 ⟨b4741, rfl, HM⟩
  refine ox rfl rfl rfl rfl (ex_assign rfl rfl) ?_
  refine ops_nil (at_then (run_seq ?_))
  refine run_region rfl ?_
  refine ox rfl rfl rfl rfl (ex_assign rfl rfl) ?_
  refine ops_nil (at_then (run_seq ?_))
  refine run_block ?_
  refine run_seq ?_
  obtain ⟨t4756, h4757, H⟩ := bind_some H
  refine run_meet (fun ρ_ w_ => ρ_ = [(1, .pointer (some ⟨b4741, 0, none⟩)), (3, .func (.func 58) #[] #[]), (9, .bool ((!t4756) || ((x0.fKind == 0) != (x0.fMember == 0))))] ∧ Mem w [] w_ [box b4741 37 [.int .i64 x0.fKind, .int .i64 x0.fMember, p0_0, p0_1]]) ?_ ?_
  · skip
    refine run_region rfl ?_
    refine ox rfl rfl rfl rfl (ex_fieldAddr (off' := 0) rfl rfl Tryz.underlying37 rfl tsz2 rfl) ?_
    refine ox rfl rfl rfl rfl (ex_load1 rfl rfl Tryz.underlying2 rfl ((HM.box_at 0 rfl) 0 _ rfl)) ?_
    refine od rfl rfl rfl rfl (does_callk rfl callok55 rfl (impl_within.calls (x0 := x0.fKind) (x1 := 0) (x2 := 2) h4757)) ?_
    rintro _ w4758 ⟨rfl, hn⟩
    replace HM : Mem w [] w4758 [box b4741 37 [.int .i64 x0.fKind, .int .i64 x0.fMember, p0_0, p0_1]] := HM.call hn
    refine ox rfl rfl rfl rfl (ex_not rfl rfl) ?_
    refine ox rfl rfl rfl rfl (ex_move rfl rfl) ?_
    refine bool_cases (!t4756) (fun hg4759 => ?_) (fun hg4759 => ?_)
    · skip
      refine ops_off rfl (guard_off rfl rfl rfl hg4759) rfl rfl ?_
      refine ops_off rfl (guard_off rfl rfl rfl hg4759) rfl rfl ?_
      refine ops_off rfl (guard_off rfl rfl rfl hg4759) rfl rfl ?_
      refine ops_off rfl (guard_off rfl rfl rfl hg4759) rfl rfl ?_
      refine ops_off rfl (guard_off rfl rfl rfl hg4759) rfl rfl ?_
      refine ops_off rfl (guard_off rfl rfl rfl hg4759) rfl rfl ?_
      refine ops_off rfl (guard_off rfl rfl rfl hg4759) rfl rfl ?_
      have hg4760 : ((!t4756) || ((x0.fKind == 0) != (x0.fMember == 0))) = true := by simp only [hg4759, Bool.and_true, Bool.true_and, Bool.and_false, Bool.false_and, Bool.or_true, Bool.true_or, Bool.or_false, Bool.false_or, Bool.not_true, Bool.not_false, Bool.not_not]
      refine ops_ex (v := .bool ((!t4756) || ((x0.fKind == 0) != (x0.fMember == 0)))) rfl (guard_none rfl) rfl rfl (ex_por_t rfl rfl hg4759) ?_
      refine ox rfl rfl rfl rfl (ex_assign rfl rfl) ?_
      refine ops_nil ?_
      exact at_meet [(1, .pointer (some ⟨b4741, 0, none⟩)), (3, .func (.func 58) #[] #[]), (9, .bool ((!t4756) || ((x0.fKind == 0) != (x0.fMember == 0))))] ⟨rfl, HM⟩ (Sub.cons rfl (Sub.cons rfl (Sub.cons rfl Sub.nil)))
    · skip
      refine ops_ex rfl (guard_on rfl rfl rfl hg4759) rfl rfl (ex_fieldAddr (off' := 0) rfl rfl Tryz.underlying37 rfl tsz2 rfl) ?_
      refine ops_ex rfl (guard_on rfl rfl rfl hg4759) rfl rfl (ex_load1 rfl rfl Tryz.underlying2 rfl ((HM.box_at 0 rfl) 0 _ rfl)) ?_
      refine ops_ex rfl (guard_on rfl rfl rfl hg4759) rfl rfl (ex_eql rfl rfl rfl) ?_
      refine ops_ex rfl (guard_on rfl rfl rfl hg4759) rfl rfl (ex_fieldAddr (off' := 1) rfl rfl Tryz.underlying37 rfl tsz2 rfl) ?_
      refine ops_ex rfl (guard_on rfl rfl rfl hg4759) rfl rfl (ex_load1 rfl rfl Tryz.underlying2 rfl ((HM.box_at 0 rfl) 1 _ rfl)) ?_
      refine ops_ex rfl (guard_on rfl rfl rfl hg4759) rfl rfl (ex_eql rfl rfl rfl) ?_
      refine ops_ex rfl (guard_on rfl rfl rfl hg4759) rfl rfl (ex_bneq rfl rfl rfl Tryz.underlying4) ?_
      refine ops_ex (v := .bool ((!t4756) || ((x0.fKind == 0) != (x0.fMember == 0)))) rfl (guard_none rfl) rfl rfl (ex_por_f rfl rfl hg4759 rfl) ?_
      refine ox rfl rfl rfl rfl (ex_assign rfl rfl) ?_
      refine ops_nil ?_
      exact at_meet [(1, .pointer (some ⟨b4741, 0, none⟩)), (3, .func (.func 58) #[] #[]), (9, .bool ((!t4756) || ((x0.fKind == 0) != (x0.fMember == 0))))] ⟨rfl, HM⟩ (Sub.cons rfl (Sub.cons rfl (Sub.cons rfl Sub.nil)))
  · rintro _ w4761 ⟨rfl, HM⟩
    refine at_then ?_
    refine run_cond (b := ((!t4756) || ((x0.fKind == 0) != (x0.fMember == 0)))) rfl (fun hb4762 => ?_) (fun hb4762 => ?_)
    · replace H := cond_t hb4762 H
      refine run_seq ?_
      refine run_region rfl ?_
      refine ox rfl rfl rfl rfl (ex_assign rfl rfl) ?_
      refine ops_nil (at_then ?_)
      refine run_ret ?_
      refine at_block_ret ?_
      refine at_then_ret ?_
      replace HM := (HM.front 0 rfl rfl).drop
      have hR := Option.some.inj H
      subst hR
      exact at_ret1 rfl rfl ⟨_, rfl, rfl, HM⟩
    · replace H := cond_f hb4762 H
      refine run_seq ?_
      obtain ⟨t4763, h4764, H⟩ := bind_some H
      refine run_meet (fun ρ_ w_ => ρ_ = [(1, .pointer (some ⟨b4741, 0, none⟩)), (3, .func (.func 58) #[] #[]), (23, .bool ((x0.fMember != 0) && (!t4763)))] ∧ Mem w [] w_ [box b4741 37 [.int .i64 x0.fKind, .int .i64 x0.fMember, p0_0, p0_1]]) ?_ ?_
      · skip
        refine run_region rfl ?_
        refine ox rfl rfl rfl rfl (ex_fieldAddr (off' := 1) rfl rfl Tryz.underlying37 rfl tsz2 rfl) ?_
        refine ox rfl rfl rfl rfl (ex_load1 rfl rfl Tryz.underlying2 rfl ((HM.box_at 0 rfl) 1 _ rfl)) ?_
        refine ox rfl rfl rfl rfl (ex_neq rfl rfl rfl) ?_
        refine ox rfl rfl rfl rfl (ex_move rfl rfl) ?_
        refine bool_cases (x0.fMember != 0) (fun hg4765 => ?_) (fun hg4765 => ?_)
        · skip
          refine ops_ex rfl (guard_on rfl rfl rfl hg4765) rfl rfl (ex_fieldAddr (off' := 1) rfl rfl Tryz.underlying37 rfl tsz2 rfl) ?_
          refine ops_ex rfl (guard_on rfl rfl rfl hg4765) rfl rfl (ex_load1 rfl rfl Tryz.underlying2 rfl ((HM.box_at 0 rfl) 1 _ rfl)) ?_
          refine ops_does rfl (guard_on rfl rfl rfl hg4765) rfl rfl (does_callk rfl callok59 rfl (impl_isKey.calls (x0 := x0.fMember) (cond_t hg4765 h4764))) ?_
          rintro _ w4766 ⟨rfl, hn⟩
          replace HM : Mem w [] w4766 [box b4741 37 [.int .i64 x0.fKind, .int .i64 x0.fMember, p0_0, p0_1]] := HM.call hn
          refine ops_ex rfl (guard_on rfl rfl rfl hg4765) rfl rfl (ex_not rfl rfl) ?_
          refine ops_ex (v := .bool ((x0.fMember != 0) && (!t4763))) rfl (guard_none rfl) rfl rfl (ex_pand_t rfl rfl hg4765 rfl) ?_
          refine ox rfl rfl rfl rfl (ex_assign rfl rfl) ?_
          refine ops_nil ?_
          exact at_meet [(1, .pointer (some ⟨b4741, 0, none⟩)), (3, .func (.func 58) #[] #[]), (23, .bool ((x0.fMember != 0) && (!t4763)))] ⟨rfl, HM⟩ (Sub.cons rfl (Sub.cons rfl (Sub.cons rfl Sub.nil)))
        · skip
          refine ops_off rfl (guard_off rfl rfl rfl hg4765) rfl rfl ?_
          refine ops_off rfl (guard_off rfl rfl rfl hg4765) rfl rfl ?_
          refine ops_off rfl (guard_off rfl rfl rfl hg4765) rfl rfl ?_
          refine ops_off rfl (guard_off rfl rfl rfl hg4765) rfl rfl ?_
          have hg4767 : ((x0.fMember != 0) && (!t4763)) = false := by simp only [hg4765, Bool.and_true, Bool.true_and, Bool.and_false, Bool.false_and, Bool.or_true, Bool.true_or, Bool.or_false, Bool.false_or, Bool.not_true, Bool.not_false, Bool.not_not]
          refine ops_ex (v := .bool ((x0.fMember != 0) && (!t4763))) rfl (guard_none rfl) rfl rfl (ex_pand_f rfl rfl hg4765) ?_
          refine ox rfl rfl rfl rfl (ex_assign rfl rfl) ?_
          refine ops_nil ?_
          exact at_meet [(1, .pointer (some ⟨b4741, 0, none⟩)), (3, .func (.func 58) #[] #[]), (23, .bool ((x0.fMember != 0) && (!t4763)))] ⟨rfl, HM⟩ (Sub.cons rfl (Sub.cons rfl (Sub.cons rfl Sub.nil)))
      · rintro _ w4768 ⟨rfl, HM⟩
        refine at_then ?_
        refine run_cond (b := ((x0.fMember != 0) && (!t4763))) rfl (fun hb4769 => ?_) (fun hb4769 => ?_)
        · replace H := cond_t hb4769 H
          refine run_seq ?_
          refine run_region rfl ?_
          refine ox rfl rfl rfl rfl (ex_assign rfl rfl) ?_
          refine ops_nil (at_then ?_)
          refine run_ret ?_
          refine at_block_ret ?_
          refine at_then_ret ?_
          replace HM := (HM.front 0 rfl rfl).drop
          have hR := Option.some.inj H
          subst hR
          exact at_ret1 rfl rfl ⟨_, rfl, rfl, HM⟩
        · replace H := cond_f hb4769 H
          refine run_seq ?_
          obtain ⟨t4770, h4771, H⟩ := bind_some H
          obtain ⟨t4772, h4773, H⟩ := bind_some H
          refine run_meet (fun ρ_ w_ => ρ_ = [(1, .pointer (some ⟨b4741, 0, none⟩)), (33, .bool (t4770 || t4772))] ∧ Mem w [] w_ [box b4741 37 [.int .i64 x0.fKind, .int .i64 x0.fMember, p0_0, p0_1]]) ?_ ?_
          · skip
            refine run_region rfl ?_
            refine ox rfl rfl rfl rfl (ex_move rfl rfl) ?_
            refine ox rfl rfl rfl rfl (ex_fieldAddr (off' := 2) rfl rfl Tryz.underlying37 rfl tsz34 rfl) ?_
            refine ox rfl rfl rfl rfl (ex_load1 rfl rfl Tryz.underlying34 rfl ((HM.box_at 0 rfl) 2 _ rfl)) ?_
            refine ox rfl rfl rfl rfl (ex_len (d := kRef) (xs := x0.fIns) rfl rfl Tryz.underlying34 hp0_0) ?_
            refine od rfl rfl rfl rfl (does_callvk rfl callok58 rfl rfl rfl (impl_TxFault_1.calls (x0 := (x0.fIns.length : Int)) h4771)) ?_
            rintro _ w4774 ⟨rfl, hn⟩
            replace HM : Mem w [] w4774 [box b4741 37 [.int .i64 x0.fKind, .int .i64 x0.fMember, p0_0, p0_1]] := HM.call hn
            refine ox rfl rfl rfl rfl (ex_move rfl rfl) ?_
            refine bool_cases t4770 (fun hg4775 => ?_) (fun hg4775 => ?_)
            · skip
              refine ops_off rfl (guard_off rfl rfl rfl hg4775) rfl rfl ?_
              refine ops_off rfl (guard_off rfl rfl rfl hg4775) rfl rfl ?_
              refine ops_off rfl (guard_off rfl rfl rfl hg4775) rfl rfl ?_
              refine ops_off rfl (guard_off rfl rfl rfl hg4775) rfl rfl ?_
              refine ops_off rfl (guard_off rfl rfl rfl hg4775) rfl rfl ?_
              have hg4776 : (t4770 || t4772) = true := by simp only [hg4775, Bool.and_true, Bool.true_and, Bool.and_false, Bool.false_and, Bool.or_true, Bool.true_or, Bool.or_false, Bool.false_or, Bool.not_true, Bool.not_false, Bool.not_not]
              refine ops_ex (v := .bool (t4770 || t4772)) rfl (guard_none rfl) rfl rfl (ex_por_t rfl rfl hg4775) ?_
              refine ox rfl rfl rfl rfl (ex_assign rfl rfl) ?_
              refine ops_nil ?_
              exact at_meet [(1, .pointer (some ⟨b4741, 0, none⟩)), (33, .bool (t4770 || t4772))] ⟨rfl, HM⟩ (Sub.cons rfl (Sub.cons rfl Sub.nil))
            · skip
              refine ops_ex rfl (guard_on rfl rfl rfl hg4775) rfl rfl (ex_move rfl rfl) ?_
              refine ops_ex rfl (guard_on rfl rfl rfl hg4775) rfl rfl (ex_fieldAddr (off' := 3) rfl rfl Tryz.underlying37 rfl tsz35 rfl) ?_
              refine ops_ex rfl (guard_on rfl rfl rfl hg4775) rfl rfl (ex_load1 rfl rfl Tryz.underlying35 rfl ((HM.box_at 0 rfl) 3 _ rfl)) ?_
              refine ops_ex rfl (guard_on rfl rfl rfl hg4775) rfl rfl (ex_len (d := kOut) (xs := x0.fOuts) rfl rfl Tryz.underlying35 hp0_1) ?_
              refine ops_does rfl (guard_on rfl rfl rfl hg4775) rfl rfl (does_callvk rfl callok58 rfl rfl rfl (impl_TxFault_1.calls (x0 := (x0.fOuts.length : Int)) (cond_t (not_mk hg4775) h4773))) ?_
              rintro _ w4777 ⟨rfl, hn⟩
              replace HM : Mem w [] w4777 [box b4741 37 [.int .i64 x0.fKind, .int .i64 x0.fMember, p0_0, p0_1]] := HM.call hn
              refine ops_ex (v := .bool (t4770 || t4772)) rfl (guard_none rfl) rfl rfl (ex_por_f rfl rfl hg4775 rfl) ?_
              refine ox rfl rfl rfl rfl (ex_assign rfl rfl) ?_
              refine ops_nil ?_
              exact at_meet [(1, .pointer (some ⟨b4741, 0, none⟩)), (33, .bool (t4770 || t4772))] ⟨rfl, HM⟩ (Sub.cons rfl (Sub.cons rfl Sub.nil))
          · rintro _ w4778 ⟨rfl, HM⟩
            refine at_then ?_
            refine run_cond (b := (t4770 || t4772)) rfl (fun hb4779 => ?_) (fun hb4779 => ?_)
            · replace H := cond_t hb4779 H
              refine run_seq ?_
              refine run_region rfl ?_
              refine ox rfl rfl rfl rfl (ex_assign rfl rfl) ?_
              refine ops_nil (at_then ?_)
              refine run_ret ?_
              refine at_block_ret ?_
              refine at_then_ret ?_
              replace HM := (HM.front 0 rfl rfl).drop
              have hR := Option.some.inj H
              subst hR
              exact at_ret1 rfl rfl ⟨_, rfl, rfl, HM⟩
            · replace H := cond_f hb4779 H
              refine run_skip ?_
              refine at_block ?_
              refine at_then ?_
              obtain ⟨o4838, ho4839, H⟩ := bind_some H
              refine run_mid (fun ρ_ w_ => Sum.inr () = o4838 ∧ ρ_ = [(1, .pointer (some ⟨b4741, 0, none⟩))] ∧ Mem w [] w_ [box b4741 37 [.int .i64 x0.fKind, .int .i64 x0.fMember, p0_0, p0_1]]) ?_ ?_
              · skip
                refine run_seq ?_
                refine run_region rfl ?_
                refine ox rfl rfl rfl rfl (ex_fieldAddr (off' := 2) rfl rfl Tryz.underlying37 rfl tsz34 rfl) ?_
                refine ox rfl rfl rfl rfl (ex_load1 rfl rfl Tryz.underlying34 rfl ((HM.box_at 0 rfl) 2 _ rfl)) ?_
                refine ox rfl rfl rfl rfl (ex_len (d := kRef) (xs := x0.fIns) rfl rfl Tryz.underlying34 hp0_0) ?_
                refine ox rfl rfl rfl rfl (ex_move rfl rfl) ?_
                refine ops_nil (at_then ?_)
                refine run_block ?_
                refine run_loop (fun k_ ρ_ w_ => ∃ a4859 : Int, impl_TxFault.l0 x0 k_ a4859 = some o4838 ∧ ρ_ = [(1, .pointer (some ⟨b4741, 0, none⟩)), (47, p0_0), (48, .int .i64 (x0.fIns.length : Int)), (49, .int .i64 a4859)] ∧ Mem w [] w_ [box b4741 37 [.int .i64 x0.fKind, .int .i64 x0.fMember, p0_0, p0_1]]) k (ρ1 := [(1, .pointer (some ⟨b4741, 0, none⟩)), (47, p0_0), (48, .int .i64 (x0.fIns.length : Int)), (49, .int .i64 0)]) ⟨_, ho4839, rfl, HM⟩ (Sub.cons rfl (Sub.cons rfl (Sub.cons rfl (Sub.cons rfl Sub.nil)))) ?_
                clear HM ho4839
                rintro k4879 _ w4880 ⟨a4859, ho4839, rfl, HM⟩
                obtain _ | k4879 := k4879
                · exact nomatch ((impl_TxFault.l0_z x0 a4859).symm.trans ho4839)
                replace ho4839 := (impl_TxFault.l0_s x0 k4879 a4859).symm.trans ho4839
                refine run_seq ?_
                refine run_region rfl ?_
                refine ox rfl rfl rfl rfl (ex_lss rfl rfl rfl) ?_
                refine ops_nil (at_then (run_seq ?_))
                refine run_cond (b := (decide (a4859 < (x0.fIns.length : Int)))) rfl (fun hb4881 => ?_) (fun hb4881 => ?_)
                · replace ho4839 := cond_t hb4881 ho4839
                  refine run_skip ?_
                  refine at_then ?_
                  refine run_seq ?_
                  refine run_block ?_
                  refine run_seq ?_
                  obtain ⟨e4882, ho4839⟩ := chk_some ho4839
                  refine run_region rfl ?_
                  refine ox rfl rfl rfl rfl (ex_move rfl rfl) ?_
                  have hc4883 : CellsAt _ (sb p0_0) (so p0_0 + (a4859).toNat * 2) [(.int .i64 ((gt x0.fIns a4859).fTx)), (.int .i64 ((gt x0.fIns a4859).fAt))] := rd_plain hp0_0 e4882
                  refine ox rfl rfl rfl rfl (ex_indexAddr (d := kRef) rfl rfl rfl Tryz.underlying34 tsz66 hp0_0 (idx_lo e4882) (idx_hi e4882)) ?_
                  refine ox rfl rfl rfl rfl (ex_loadN (cs := [(.int .i64 ((gt x0.fIns a4859).fTx)), (.int .i64 ((gt x0.fIns a4859).fAt))]) rfl rfl Tryz.underlying66 rfl tsz66 rfl ((HM.at_ hc4883).sub 0 2 rfl)) ?_
                  refine od rfl rfl rfl rfl (does_alloc (cs := [.int .i64 0, .int .i64 0]) rfl tz66 rfl HM) ?_
                  rintro _ w4887 ⟨b4884, rfl, HM⟩
                  refine ox rfl rfl rfl rfl (ex_assign rfl rfl) ?_
                  refine odS rfl rfl rfl (does_store (vs := [.int .i64 ((gt x0.fIns a4859).fTx), .int .i64 ((gt x0.fIns a4859).fAt)]) (cs' := [.int .i64 ((gt x0.fIns a4859).fTx), .int .i64 ((gt x0.fIns a4859).fAt)]) rfl rfl rfl rfl tsz66 (Ones.int (Ones.int Ones.nil)) rfl rfl HM) ?_
                  rintro w4888 HM
                  refine ops_nil (at_then (run_seq ?_))
                  refine run_seq ?_
                  obtain ⟨t4892, h4893, ho4839⟩ := bind_some ho4839
                  refine run_region rfl ?_
                  refine ox rfl rfl rfl rfl (ex_loadN (cs := [(.int .i64 ((gt x0.fIns a4859).fTx)), (.int .i64 ((gt x0.fIns a4859).fAt))]) rfl rfl Tryz.underlying66 rfl tsz66 rfl ((HM.box_at 0 rfl).sub 0 2 rfl)) ?_
                  refine od rfl rfl rfl rfl (does_callk rfl callok53 rfl (impl_isRef.calls (x0 := (gt x0.fIns a4859)) h4893)) ?_
                  rintro _ w4894 ⟨rfl, hn⟩
                  replace HM : Mem w [] w4894 [box b4884 66 [.int .i64 ((gt x0.fIns a4859).fTx), .int .i64 ((gt x0.fIns a4859).fAt)], box b4741 37 [.int .i64 x0.fKind, .int .i64 x0.fMember, p0_0, p0_1]] := HM.call hn
                  refine ox rfl rfl rfl rfl (ex_not rfl rfl) ?_
                  refine ops_nil (at_then ?_)
                  refine run_cond (b := !t4892) rfl (fun hb4895 => ?_) (fun hb4895 => ?_)
                  · replace ho4839 := cond_t hb4895 ho4839
                    refine run_seq ?_
                    refine run_region rfl ?_
                    refine ox rfl rfl rfl rfl (ex_assign rfl rfl) ?_
                    refine ops_nil (at_then ?_)
                    refine run_ret ?_
                    refine at_then_ret ?_
                    refine at_block_ret ?_
                    refine at_then_ret ?_
                    refine at_then_ret ?_
                    refine at_block_ret ?_
                    refine at_then_ret ?_
                    replace HM := (HM.front 0 rfl rfl).drop
                    replace HM := (HM.front 0 rfl rfl).drop
                    have hR := Option.some.inj ho4839
                    subst hR
                    have hT := thn_inl H
                    have hR := Option.some.inj hT
                    subst hR
                    exact at_ret1 rfl rfl ⟨_, rfl, rfl, HM⟩
                  · replace ho4839 := cond_f hb4895 ho4839
                    refine run_skip ?_
                    refine at_then ?_
                    refine run_seq ?_
                    obtain ⟨e4896, ho4839⟩ := chk_some ho4839
                    obtain ⟨t4900, h4901, ho4839⟩ := bind_some ho4839
                    refine run_drawf (fun w_ => Mem w [] w_ [box b4884 66 [.int .i64 ((gt x0.fIns a4859).fTx), .int .i64 ((gt x0.fIns a4859).fAt)], box b4741 37 [.int .i64 x0.fKind, .int .i64 x0.fMember, p0_0, p0_1]]) [(0, true), (1, true), (2, true), (3, true), (4, true), (5, false)] mixed rfl rfl (by kernel_rfl) ?_
                    replace HM := HM.grow (fr_drew _)
                    have hS := Mem.suf (M := []) HM
                    refine dp rfl rfl rfl rfl (ex_fieldAddr (off' := 2) rfl rfl Tryz.underlying37 rfl tsz34 rfl) hS ?_
                    refine drwp_take rfl (guard_none rfl) rfl rfl (fun w_ hS_ => (ex_load1 rfl rfl Tryz.underlying34 rfl ((hS_.box_at 1 rfl) 2 _ rfl))) hS ?_
                    refine dp rfl rfl rfl rfl (ex_move rfl rfl) hS ?_
                    refine drwp_takeE rfl (guard_none rfl) rfl rfl (ex_cutH kRef rfl rfl rfl Tryz.underlying34 tsz66 hp0_0 e4896) hS ?_
                    rintro u4897 hr4899
                    refine drwp_take rfl (guard_none rfl) rfl rfl (fun w_ hS_ => (ex_loadN (cs := [(.int .i64 ((gt x0.fIns a4859).fTx)), (.int .i64 ((gt x0.fIns a4859).fAt))]) rfl rfl Tryz.underlying66 rfl tsz66 rfl ((hS_.box_at 0 rfl).sub 0 2 rfl))) hS ?_
                    refine drwp_one rfl (guard_none rfl) rfl rfl (does_callk rfl callok60 rfl (slices_Contains_impl_Ref.calls (x0 := x0.fIns.take (a4859).toNat) (x1 := (gt x0.fIns a4859)) (HM.rd hr4899) h4901)) ?_
                    rintro _ w4902 ⟨rfl, hn⟩
                    replace HM : Mem w [] w4902 [box b4884 66 [.int .i64 ((gt x0.fIns a4859).fTx), .int .i64 ((gt x0.fIns a4859).fAt)], box b4741 37 [.int .i64 x0.fKind, .int .i64 x0.fMember, p0_0, p0_1]] := HM.call hn
                    have hS := Mem.suf (M := []) HM
                    refine ⟨hS, ?_⟩
                    refine drwp_done ?_
                    refine at_then ?_
                    refine run_cond (b := t4900) rfl (fun hb4903 => ?_) (fun hb4903 => ?_)
                    · replace ho4839 := cond_t hb4903 ho4839
                      refine run_seq ?_
                      refine run_region rfl ?_
                      refine ox rfl rfl rfl rfl (ex_assign rfl rfl) ?_
                      refine ops_nil (at_then ?_)
                      refine run_ret ?_
                      refine at_block_ret ?_
                      refine at_then_ret ?_
                      refine at_then_ret ?_
                      refine at_block_ret ?_
                      refine at_then_ret ?_
                      replace HM := (HM.front 0 rfl rfl).drop
                      replace HM := (HM.front 0 rfl rfl).drop
                      have hR := Option.some.inj ho4839
                      subst hR
                      have hT := thn_inl H
                      have hR := Option.some.inj hT
                      subst hR
                      exact at_ret1 rfl rfl ⟨_, rfl, rfl, HM⟩
                    · replace ho4839 := cond_f hb4903 ho4839
                      refine run_skip ?_
                      refine at_block ?_
                      refine at_then ?_
                      refine run_region rfl ?_
                      refine ox rfl rfl rfl rfl (ex_add rfl rfl rfl) ?_
                      refine ox rfl rfl rfl rfl (ex_move rfl rfl) ?_
                      refine ops_nil ?_
                      replace HM := (HM.front 0 rfl rfl).drop
                      exact at_again k4879 (ρ1 := [(1, .pointer (some ⟨b4741, 0, none⟩)), (47, p0_0), (48, .int .i64 (x0.fIns.length : Int)), (49, .int .i64 (wrap64 (a4859 + 1)))]) (Nat.lt_succ_self _) ⟨_, ho4839, rfl, HM⟩ (Sub.cons rfl (Sub.cons rfl (Sub.cons rfl (Sub.cons rfl Sub.nil))))
                · replace ho4839 := cond_f hb4881 ho4839
                  refine run_exit ?_
                  refine at_then_exit ?_
                  refine at_then_exit ?_
                  refine at_block_exit ?_
                  exact at_mid (ρ' := [(1, .pointer (some ⟨b4741, 0, none⟩))]) ⟨(Option.some.inj ho4839), rfl, HM⟩ (Sub.cons rfl Sub.nil)
              · rintro _ w4904 ⟨rfl, rfl, HM⟩
                replace H := (thn_inr H)
                obtain ⟨o4939, ho4940, H⟩ := bind_some H
                refine run_mid (fun ρ_ w_ => Sum.inr () = o4939 ∧ ρ_ = [(1, .pointer (some ⟨b4741, 0, none⟩))] ∧ Mem w [] w_ [box b4741 37 [.int .i64 x0.fKind, .int .i64 x0.fMember, p0_0, p0_1]]) ?_ ?_
                · skip
                  refine run_seq ?_
                  refine run_region rfl ?_
                  refine ox rfl rfl rfl rfl (ex_fieldAddr (off' := 3) rfl rfl Tryz.underlying37 rfl tsz35 rfl) ?_
                  refine ox rfl rfl rfl rfl (ex_load1 rfl rfl Tryz.underlying35 rfl ((HM.box_at 0 rfl) 3 _ rfl)) ?_
                  refine ox rfl rfl rfl rfl (ex_len (d := kOut) (xs := x0.fOuts) rfl rfl Tryz.underlying35 hp0_1) ?_
                  refine ox rfl rfl rfl rfl (ex_move rfl rfl) ?_
                  refine ops_nil (at_then ?_)
                  refine run_block ?_
                  refine run_loop (fun k_ ρ_ w_ => ∃ a4952 : Int, impl_TxFault.l1 x0 k_ a4952 = some o4939 ∧ ρ_ = [(1, .pointer (some ⟨b4741, 0, none⟩)), (65, p0_1), (66, .int .i64 (x0.fOuts.length : Int)), (67, .int .i64 a4952)] ∧ Mem w [] w_ [box b4741 37 [.int .i64 x0.fKind, .int .i64 x0.fMember, p0_0, p0_1]]) k (ρ1 := [(1, .pointer (some ⟨b4741, 0, none⟩)), (65, p0_1), (66, .int .i64 (x0.fOuts.length : Int)), (67, .int .i64 0)]) ⟨_, ho4940, rfl, HM⟩ (Sub.cons rfl (Sub.cons rfl (Sub.cons rfl (Sub.cons rfl Sub.nil)))) ?_
                  clear HM ho4940
                  rintro k4964 _ w4965 ⟨a4952, ho4940, rfl, HM⟩
                  obtain _ | k4964 := k4964
                  · exact nomatch ((impl_TxFault.l1_z x0 a4952).symm.trans ho4940)
                  replace ho4940 := (impl_TxFault.l1_s x0 k4964 a4952).symm.trans ho4940
                  refine run_seq ?_
                  refine run_region rfl ?_
                  refine ox rfl rfl rfl rfl (ex_lss rfl rfl rfl) ?_
                  refine ops_nil (at_then (run_seq ?_))
                  refine run_cond (b := (decide (a4952 < (x0.fOuts.length : Int)))) rfl (fun hb4966 => ?_) (fun hb4966 => ?_)
                  · replace ho4940 := cond_t hb4966 ho4940
                    refine run_skip ?_
                    refine at_then ?_
                    refine run_seq ?_
                    refine run_block ?_
                    refine run_seq ?_
                    obtain ⟨e4967, ho4940⟩ := chk_some ho4940
                    refine run_region rfl ?_
                    obtain ⟨kv4969, hc4968, hk4970⟩ : ∃ u, CellsAt _ (sb p0_1) (so p0_1 + (a4952).toNat * 4) [(.int .i64 ((gt x0.fOuts a4952).fValue)), u, (.int .i64 ((gt x0.fOuts a4952).fRule.fNeed)), (.int .i64 ((gt x0.fOuts a4952).fRule.fAfter))] ∧ RdS kInt _ u ((gt x0.fOuts a4952).fRule.fKeys) := rd_with1 hp0_1 e4967
                    refine ox rfl rfl rfl rfl (ex_indexAddr (d := kOut) rfl rfl rfl Tryz.underlying35 tsz70 hp0_1 (idx_lo e4967) (idx_hi e4967)) ?_
                    refine ox rfl rfl rfl rfl (ex_loadN (cs := [(.int .i64 ((gt x0.fOuts a4952).fValue)), kv4969, (.int .i64 ((gt x0.fOuts a4952).fRule.fNeed)), (.int .i64 ((gt x0.fOuts a4952).fRule.fAfter))]) rfl rfl Tryz.underlying70 rfl tsz70 rfl ((HM.at_ hc4968).sub 0 4 rfl)) ?_
                    refine od rfl rfl rfl rfl (does_alloc (cs := [.int .i64 0, .slice none 0 0, .int .i64 0, .int .i64 0]) rfl tz70 rfl HM) ?_
                    rintro _ w4974 ⟨b4971, rfl, HM⟩
                    refine odS rfl rfl rfl (does_store (vs := [.int .i64 ((gt x0.fOuts a4952).fValue), kv4969, .int .i64 ((gt x0.fOuts a4952).fRule.fNeed), .int .i64 ((gt x0.fOuts a4952).fRule.fAfter)]) (cs' := [.int .i64 ((gt x0.fOuts a4952).fValue), kv4969, .int .i64 ((gt x0.fOuts a4952).fRule.fNeed), .int .i64 ((gt x0.fOuts a4952).fRule.fAfter)]) rfl rfl rfl rfl tsz70 (Ones.int (Ones.rd hk4970 (Ones.int (Ones.int Ones.nil)))) rfl rfl HM) ?_
                    rintro w4975 HM
                    refine ops_nil (at_then (run_seq ?_))
                    obtain ⟨t4976, h4977, ho4940⟩ := bind_some ho4940
                    refine run_region rfl ?_
                    refine ox rfl rfl rfl rfl (ex_loadN (cs := [(.int .i64 ((gt x0.fOuts a4952).fValue)), kv4969, (.int .i64 ((gt x0.fOuts a4952).fRule.fNeed)), (.int .i64 ((gt x0.fOuts a4952).fRule.fAfter))]) rfl rfl Tryz.underlying70 rfl tsz70 rfl ((HM.box_at 0 rfl).sub 0 4 rfl)) ?_
                    refine od rfl rfl rfl rfl (does_callk rfl callok61 rfl (impl_outFault.calls (x0 := (gt x0.fOuts a4952)) (HM.rd hk4970) h4977)) ?_
                    rintro _ w4978 ⟨rfl, hn⟩
                    replace HM : Mem w [] w4978 [box b4971 70 [.int .i64 ((gt x0.fOuts a4952).fValue), kv4969, .int .i64 ((gt x0.fOuts a4952).fRule.fNeed), .int .i64 ((gt x0.fOuts a4952).fRule.fAfter)], box b4741 37 [.int .i64 x0.fKind, .int .i64 x0.fMember, p0_0, p0_1]] := HM.call hn
                    refine ox rfl rfl rfl rfl (ex_assign rfl rfl) ?_
                    refine ops_nil (at_then (run_seq ?_))
                    refine run_region rfl ?_
                    refine ox rfl rfl rfl rfl (ex_move rfl rfl) ?_
                    refine ox rfl rfl rfl rfl (ex_neq rfl rfl rfl) ?_
                    refine ops_nil (at_then ?_)
                    refine run_cond (b := (t4976 != 0)) rfl (fun hb4979 => ?_) (fun hb4979 => ?_)
                    · replace ho4940 := cond_t hb4979 ho4940
                      refine run_seq ?_
                      refine run_region rfl ?_
                      refine ox rfl rfl rfl rfl (ex_move rfl rfl) ?_
                      refine ox rfl rfl rfl rfl (ex_assign rfl rfl) ?_
                      refine ops_nil (at_then ?_)
                      refine run_ret ?_
                      refine at_block_ret ?_
                      refine at_then_ret ?_
                      refine at_then_ret ?_
                      refine at_block_ret ?_
                      refine at_then_ret ?_
                      replace HM := (HM.front 0 rfl rfl).drop
                      replace HM := (HM.front 0 rfl rfl).drop
                      have hR := Option.some.inj ho4940
                      subst hR
                      have hT := thn_inl H
                      have hR := Option.some.inj hT
                      subst hR
                      exact at_ret1 rfl rfl ⟨_, rfl, rfl, HM⟩
                    · replace ho4940 := cond_f hb4979 ho4940
                      refine run_skip ?_
                      refine at_block ?_
                      refine at_then ?_
                      refine run_region rfl ?_
                      refine ox rfl rfl rfl rfl (ex_add rfl rfl rfl) ?_
                      refine ox rfl rfl rfl rfl (ex_move rfl rfl) ?_
                      refine ops_nil ?_
                      replace HM := (HM.front 0 rfl rfl).drop
                      exact at_again k4964 (ρ1 := [(1, .pointer (some ⟨b4741, 0, none⟩)), (65, p0_1), (66, .int .i64 (x0.fOuts.length : Int)), (67, .int .i64 (wrap64 (a4952 + 1)))]) (Nat.lt_succ_self _) ⟨_, ho4940, rfl, HM⟩ (Sub.cons rfl (Sub.cons rfl (Sub.cons rfl (Sub.cons rfl Sub.nil))))
                  · replace ho4940 := cond_f hb4966 ho4940
                    refine run_exit ?_
                    refine at_then_exit ?_
                    refine at_then_exit ?_
                    refine at_block_exit ?_
                    exact at_mid (ρ' := [(1, .pointer (some ⟨b4741, 0, none⟩))]) ⟨(Option.some.inj ho4940), rfl, HM⟩ (Sub.cons rfl Sub.nil)
                · rintro _ w4980 ⟨rfl, rfl, HM⟩
                  replace H := (thn_inr H)
                  refine run_seq ?_
                  refine run_seq ?_
                  obtain ⟨e4981, H⟩ := chk_some H
                  refine run_meet (fun ρ_ w_ => ρ_ = [(87, .bool ((x0.fKind == 1) && (decide (((gt x0.fOuts (0 : Int)).fValue) < 100))))] ∧ Mem w [] w_ []) ?_ ?_
                  · skip
                    refine run_region rfl ?_
                    refine ox rfl rfl rfl rfl (ex_fieldAddr (off' := 0) rfl rfl Tryz.underlying37 rfl tsz2 rfl) ?_
                    refine ox rfl rfl rfl rfl (ex_load1 rfl rfl Tryz.underlying2 rfl ((HM.box_at 0 rfl) 0 _ rfl)) ?_
                    refine ox rfl rfl rfl rfl (ex_eql rfl rfl rfl) ?_
                    refine ox rfl rfl rfl rfl (ex_move rfl rfl) ?_
                    refine bool_cases (x0.fKind == 1) (fun hg4985 => ?_) (fun hg4985 => ?_)
                    · skip
                      refine ops_ex rfl (guard_on rfl rfl rfl hg4985) rfl rfl (ex_fieldAddr (off' := 3) rfl rfl Tryz.underlying37 rfl tsz35 rfl) ?_
                      refine ops_ex rfl (guard_on rfl rfl rfl hg4985) rfl rfl (ex_load1 rfl rfl Tryz.underlying35 rfl ((HM.box_at 0 rfl) 3 _ rfl)) ?_
                      obtain ⟨kv4983, hc4982, hk4984⟩ : ∃ u, CellsAt _ (sb p0_1) (so p0_1 + ((0 : Int)).toNat * 4) [(.int .i64 ((gt x0.fOuts (0 : Int)).fValue)), u, (.int .i64 ((gt x0.fOuts (0 : Int)).fRule.fNeed)), (.int .i64 ((gt x0.fOuts (0 : Int)).fRule.fAfter))] ∧ RdS kInt _ u ((gt x0.fOuts (0 : Int)).fRule.fKeys) := rd_with1 hp0_1 (or_t e4981 hg4985)
                      refine ops_ex rfl (guard_on rfl rfl rfl hg4985) rfl rfl (ex_indexAddr (d := kOut) rfl rfl rfl Tryz.underlying35 tsz70 hp0_1 (idx_lo (or_t e4981 hg4985)) (idx_hi (or_t e4981 hg4985))) ?_
                      refine ops_ex rfl (guard_on rfl rfl rfl hg4985) rfl rfl (ex_fieldAddr (off' := so p0_1 + ((0 : Int)).toNat * 4) rfl rfl Tryz.underlying70 rfl tsz2 rfl) ?_
                      refine ops_ex rfl (guard_on rfl rfl rfl hg4985) rfl rfl (ex_load1 rfl rfl Tryz.underlying2 rfl ((HM.at_ hc4982) 0 _ rfl)) ?_
                      refine ops_ex rfl (guard_on rfl rfl rfl hg4985) rfl rfl (ex_lss rfl rfl rfl) ?_
                      refine ops_ex (v := .bool ((x0.fKind == 1) && (decide (((gt x0.fOuts (0 : Int)).fValue) < 100)))) rfl (guard_none rfl) rfl rfl (ex_pand_t rfl rfl hg4985 rfl) ?_
                      refine ops_nil ?_
                      replace HM := (HM.front 0 rfl rfl).drop
                      exact at_meet [(87, .bool ((x0.fKind == 1) && (decide (((gt x0.fOuts (0 : Int)).fValue) < 100))))] ⟨rfl, HM⟩ (Sub.cons rfl Sub.nil)
                    · skip
                      refine ops_off rfl (guard_off rfl rfl rfl hg4985) rfl rfl ?_
                      refine ops_off rfl (guard_off rfl rfl rfl hg4985) rfl rfl ?_
                      refine ops_off rfl (guard_off rfl rfl rfl hg4985) rfl rfl ?_
                      refine ops_off rfl (guard_off rfl rfl rfl hg4985) rfl rfl ?_
                      refine ops_off rfl (guard_off rfl rfl rfl hg4985) rfl rfl ?_
                      refine ops_off rfl (guard_off rfl rfl rfl hg4985) rfl rfl ?_
                      have hg4986 : ((x0.fKind == 1) && (decide (((gt x0.fOuts (0 : Int)).fValue) < 100))) = false := by simp only [hg4985, Bool.and_true, Bool.true_and, Bool.and_false, Bool.false_and, Bool.or_true, Bool.true_or, Bool.or_false, Bool.false_or, Bool.not_true, Bool.not_false, Bool.not_not]
                      refine ops_ex (v := .bool ((x0.fKind == 1) && (decide (((gt x0.fOuts (0 : Int)).fValue) < 100)))) rfl (guard_none rfl) rfl rfl (ex_pand_f rfl rfl hg4985) ?_
                      refine ops_nil ?_
                      replace HM := (HM.front 0 rfl rfl).drop
                      exact at_meet [(87, .bool ((x0.fKind == 1) && (decide (((gt x0.fOuts (0 : Int)).fValue) < 100))))] ⟨rfl, HM⟩ (Sub.cons rfl Sub.nil)
                  · rintro _ w4987 ⟨rfl, HM⟩
                    refine at_then ?_
                    refine run_cond (b := ((x0.fKind == 1) && (decide (((gt x0.fOuts (0 : Int)).fValue) < 100)))) rfl (fun hb4988 => ?_) (fun hb4988 => ?_)
                    · replace H := cond_t hb4988 H
                      refine run_seq ?_
                      refine run_region rfl ?_
                      refine ox rfl rfl rfl rfl (ex_assign rfl rfl) ?_
                      refine ops_nil (at_then ?_)
                      refine run_ret ?_
                      refine at_then_ret ?_
                      have hR := Option.some.inj H
                      subst hR
                      exact at_ret1 rfl rfl ⟨_, rfl, rfl, HM⟩
                    · replace H := cond_f hb4988 H
                      refine run_skip ?_
                      refine at_then ?_
                      refine run_seq ?_
                      refine run_region rfl ?_
                      refine ox rfl rfl rfl rfl (ex_assign rfl rfl) ?_
                      refine ops_nil (at_then ?_)
                      refine run_ret ?_
                      have hR := Option.some.inj H
                      subst hR
                      exact at_ret1 rfl rfl ⟨_, rfl, rfl, HM⟩

def impl_areOf_1.f (k : Nat) (x0 : Coin) (x1 : List Ref) : Option Bool := ((slices_Contains_impl_Ref.f k x1 x0.fRef).bind fun t5035 => some (!t5035))
theorem impl_areOf_1.calls {k : Nat} {x0 : Coin} {x1 : List Ref} {p0_0 : Value} {b1 f1 : Nat} {p1_0 : Value} {w : World} (hp0_0 : RdS kInt w p0_0 x0.fOut.fRule.fKeys) (hc1 : CellsAt w b1 f1 [p1_0]) (hp1_0 : RdS kRef w p1_0 x1) {r : Bool} (H : impl_areOf_1.f k x0 x1 = some r) :
    Calls Tryz.prog 86 ([.agg #[(.int .i64 x0.fRef.fTx), (.int .i64 x0.fRef.fAt), (.int .i64 x0.fOut.fValue), p0_0, (.int .i64 x0.fOut.fRule.fNeed), (.int .i64 x0.fOut.fRule.fAfter), (.int .i64 x0.fHeight), (.bool x0.fMined)], .pointer (some ⟨b1, f1, none⟩)] : List Value).toArray w (fun e w_ => ∃ v, e = .returned v ∧ v = (.bool r) ∧ Mem w [] w_ []) := by
  have HM := Mem.start w
  refine calls_run (N := 9) Tryz.func86 rfl rfl rfl rfl ?_
  unfold impl_areOf_1.f at H
  refine run_seq ?_
  refine run_region rfl ?_
  refine od rfl rfl rfl rfl (does_box (cs := [.int .i64 x0.fRef.fTx, .int .i64 x0.fRef.fAt, .int .i64 x0.fOut.fValue, p0_0, .int .i64 x0.fOut.fRule.fNeed, .int .i64 x0.fOut.fRule.fAfter, .int .i64 x0.fHeight, .bool x0.fMined]) rfl rfl rfl HM) ?_
  rintro _ w5034 ⟨b5031, rfl, HM⟩
  refine ox rfl rfl rfl rfl (ex_assign rfl rfl) ?_
  refine ops_nil (at_then (run_seq ?_))
  obtain ⟨t5035, h5036, H⟩ := bind_some H
  refine run_region rfl ?_
  refine ox rfl rfl rfl rfl (ex_load1 rfl rfl Tryz.underlying34 rfl ((HM.at_ hc1) 0 _ rfl)) ?_
  refine ox rfl rfl rfl rfl (ex_fieldAddr (off' := 0) rfl rfl Tryz.underlying72 rfl tsz66 rfl) ?_
  refine ox rfl rfl rfl rfl (ex_loadN (cs := [(.int .i64 x0.fRef.fTx), (.int .i64 x0.fRef.fAt)]) rfl rfl Tryz.underlying66 rfl tsz66 rfl ((HM.box_at 0 rfl).sub 0 2 rfl)) ?_
  refine od rfl rfl rfl rfl (does_callk rfl callok60 rfl (slices_Contains_impl_Ref.calls (x0 := x1) (x1 := x0.fRef) (HM.rd hp1_0) h5036)) ?_
  rintro _ w5037 ⟨rfl, hn⟩
  replace HM : Mem w [] w5037 [box b5031 72 [.int .i64 x0.fRef.fTx, .int .i64 x0.fRef.fAt, .int .i64 x0.fOut.fValue, p0_0, .int .i64 x0.fOut.fRule.fNeed, .int .i64 x0.fOut.fRule.fAfter, .int .i64 x0.fHeight, .bool x0.fMined]] := HM.call hn
  refine ox rfl rfl rfl rfl (ex_not rfl rfl) ?_
  refine ox rfl rfl rfl rfl (ex_assign rfl rfl) ?_
  refine ops_nil (at_then ?_)
  refine run_ret ?_
  replace HM := (HM.front 0 rfl rfl).drop
  have hR := Option.some.inj H
  subst hR
  exact at_ret1 rfl rfl ⟨_, rfl, rfl, HM⟩

def slices_IndexFunc_impl_Coin.l0 (x0 : List Coin) (x1_0 : List Ref) : Nat → Int → Option (Int ⊕ Unit)
  | 0, _ => none
  | k + 1, a5095 => (bif (decide (a5095 < (x0.length : Int))) then (chk (idxOk a5095 x0.length) ((impl_areOf_1.f k (gt x0 a5095) x1_0).bind fun t5111 => (bif t5111 then some (.inl a5095) else slices_IndexFunc_impl_Coin.l0 x0 x1_0 k (wrap64 (a5095 + 1))))) else some (.inr ()))
theorem slices_IndexFunc_impl_Coin.l0_z (x0 : List Coin) (x1_0 : List Ref) (a5095 : Int) : slices_IndexFunc_impl_Coin.l0 x0 x1_0 0 a5095 = none := rfl
theorem slices_IndexFunc_impl_Coin.l0_s (x0 : List Coin) (x1_0 : List Ref) (k : Nat) (a5095 : Int) : slices_IndexFunc_impl_Coin.l0 x0 x1_0 (k + 1) a5095 = (bif (decide (a5095 < (x0.length : Int))) then (chk (idxOk a5095 x0.length) ((impl_areOf_1.f k (gt x0 a5095) x1_0).bind fun t5111 => (bif t5111 then some (.inl a5095) else slices_IndexFunc_impl_Coin.l0 x0 x1_0 k (wrap64 (a5095 + 1))))) else some (.inr ())) := rfl
def slices_IndexFunc_impl_Coin.f (k : Nat) (x0 : List Coin) (x1_0 : List Ref) : Option Int := ((slices_IndexFunc_impl_Coin.l0 x0 x1_0 k 0).bind fun o5085 => thn o5085 (fun r => some r) (fun _ => some (-1)))
theorem slices_IndexFunc_impl_Coin.calls {k : Nat} {x0 : List Coin} {x1_0 : List Ref} {p0 : Value} {b1_0 f1_0 : Nat} {p1_0_0 : Value} {w : World} (hp0 : RdS kCoin w p0 x0) (hc1_0 : CellsAt w b1_0 f1_0 [p1_0_0]) (hp1_0_0 : RdS kRef w p1_0_0 x1_0) {r : Int} (H : slices_IndexFunc_impl_Coin.f k x0 x1_0 = some r) :
    Calls Tryz.prog 93 ([p0, .func (.func 86) #[] #[(.pointer (some ⟨b1_0, f1_0, none⟩))]] : List Value).toArray w (fun e w_ => ∃ v, e = .returned v ∧ v = (.int .i64 r) ∧ Mem w [] w_ []) := by
  have HM := Mem.start w
  refine calls_run (N := 19) Tryz.func93 rfl rfl rfl rfl ?_
  unfold slices_IndexFunc_impl_Coin.f at H
  refine run_seq ?_
  refine run_region rfl ?_
  refine ox rfl rfl rfl rfl (ex_assign rfl rfl) ?_
  refine ops_nil (at_then ?_)
  obtain ⟨o5085, ho5086, H⟩ := bind_some H
  refine run_mid (fun ρ_ w_ => Sum.inr () = o5085 ∧ ρ_ = [] ∧ Mem w [] w_ []) ?_ ?_
  · skip
    refine run_seq ?_
    refine run_region rfl ?_
    refine ox rfl rfl rfl rfl (ex_move rfl rfl) ?_
    refine ox rfl rfl rfl rfl (ex_len (d := kCoin) (xs := x0) rfl rfl Tryz.underlying29 hp0) ?_
    refine ox rfl rfl rfl rfl (ex_move rfl rfl) ?_
    refine ops_nil (at_then ?_)
    refine run_block ?_
    refine run_loop (fun k_ ρ_ w_ => ∃ a5095 : Int, slices_IndexFunc_impl_Coin.l0 x0 x1_0 k_ a5095 = some o5085 ∧ ρ_ = [(0, p0), (1, .func (.func 86) #[] #[(.pointer (some ⟨b1_0, f1_0, none⟩))]), (7, .int .i64 (x0.length : Int)), (8, .int .i64 a5095)] ∧ Mem w [] w_ []) k (ρ1 := [(0, p0), (1, .func (.func 86) #[] #[(.pointer (some ⟨b1_0, f1_0, none⟩))]), (7, .int .i64 (x0.length : Int)), (8, .int .i64 0)]) ⟨_, ho5086, rfl, HM⟩ (Sub.cons rfl (Sub.cons rfl (Sub.cons rfl (Sub.cons rfl Sub.nil)))) ?_
    clear HM ho5086
    rintro k5104 _ w5105 ⟨a5095, ho5086, rfl, HM⟩
    obtain _ | k5104 := k5104
    · exact nomatch ((slices_IndexFunc_impl_Coin.l0_z x0 x1_0 a5095).symm.trans ho5086)
    replace ho5086 := (slices_IndexFunc_impl_Coin.l0_s x0 x1_0 k5104 a5095).symm.trans ho5086
    refine run_seq ?_
    refine run_region rfl ?_
    refine ox rfl rfl rfl rfl (ex_lss rfl rfl rfl) ?_
    refine ops_nil (at_then (run_seq ?_))
    refine run_cond (b := (decide (a5095 < (x0.length : Int)))) rfl (fun hb5106 => ?_) (fun hb5106 => ?_)
    · replace ho5086 := cond_t hb5106 ho5086
      refine run_skip ?_
      refine at_then ?_
      refine run_seq ?_
      refine run_block ?_
      refine run_seq ?_
      refine run_region rfl ?_
      refine ox rfl rfl rfl rfl (ex_move rfl rfl) ?_
      refine ox rfl rfl rfl rfl (ex_assign rfl rfl) ?_
      refine ops_nil (at_then (run_seq ?_))
      obtain ⟨e5107, ho5086⟩ := chk_some ho5086
      obtain ⟨t5111, h5112, ho5086⟩ := bind_some ho5086
      refine run_region rfl ?_
      refine ox rfl rfl rfl rfl (ex_move rfl rfl) ?_
      refine ox rfl rfl rfl rfl (ex_move rfl rfl) ?_
      refine ox rfl rfl rfl rfl (ex_move rfl rfl) ?_
      obtain ⟨kv5109, hc5108, hk5110⟩ : ∃ u, CellsAt _ (sb p0) (so p0 + (a5095).toNat * 8) [(.int .i64 ((gt x0 a5095).fRef.fTx)), (.int .i64 ((gt x0 a5095).fRef.fAt)), (.int .i64 ((gt x0 a5095).fOut.fValue)), u, (.int .i64 ((gt x0 a5095).fOut.fRule.fNeed)), (.int .i64 ((gt x0 a5095).fOut.fRule.fAfter)), (.int .i64 ((gt x0 a5095).fHeight)), (.bool ((gt x0 a5095).fMined))] ∧ RdS kInt _ u ((gt x0 a5095).fOut.fRule.fKeys) := rd_with1 hp0 e5107
      refine ox rfl rfl rfl rfl (ex_indexAddr (d := kCoin) rfl rfl rfl Tryz.underlying29 tsz72 hp0 (idx_lo e5107) (idx_hi e5107)) ?_
      refine ox rfl rfl rfl rfl (ex_loadN (cs := [(.int .i64 ((gt x0 a5095).fRef.fTx)), (.int .i64 ((gt x0 a5095).fRef.fAt)), (.int .i64 ((gt x0 a5095).fOut.fValue)), kv5109, (.int .i64 ((gt x0 a5095).fOut.fRule.fNeed)), (.int .i64 ((gt x0 a5095).fOut.fRule.fAfter)), (.int .i64 ((gt x0 a5095).fHeight)), (.bool ((gt x0 a5095).fMined))]) rfl rfl Tryz.underlying72 rfl tsz72 rfl ((HM.at_ hc5108).sub 0 8 rfl)) ?_
      refine od rfl rfl rfl rfl (does_callvk rfl callok86 rfl rfl rfl (impl_areOf_1.calls (x0 := (gt x0 a5095)) (x1 := x1_0) (HM.rd hk5110) (HM.at_ hc1_0) (HM.rd hp1_0_0) h5112)) ?_
      rintro _ w5113 ⟨rfl, hn⟩
      replace HM : Mem w [] w5113 [] := HM.call hn
      refine ops_nil (at_then ?_)
      refine run_cond (b := t5111) rfl (fun hb5114 => ?_) (fun hb5114 => ?_)
      · replace ho5086 := cond_t hb5114 ho5086
        refine run_seq ?_
        refine run_region rfl ?_
        refine ox rfl rfl rfl rfl (ex_move rfl rfl) ?_
        refine ox rfl rfl rfl rfl (ex_assign rfl rfl) ?_
        refine ops_nil (at_then ?_)
        refine run_ret ?_
        refine at_block_ret ?_
        refine at_then_ret ?_
        refine at_then_ret ?_
        refine at_block_ret ?_
        refine at_then_ret ?_
        have hR := Option.some.inj ho5086
        subst hR
        have hT := thn_inl H
        have hR := Option.some.inj hT
        subst hR
        exact at_ret1 rfl rfl ⟨_, rfl, rfl, HM⟩
      · replace ho5086 := cond_f hb5114 ho5086
        refine run_skip ?_
        refine at_block ?_
        refine at_then ?_
        refine run_region rfl ?_
        refine ox rfl rfl rfl rfl (ex_add rfl rfl rfl) ?_
        refine ox rfl rfl rfl rfl (ex_move rfl rfl) ?_
        refine ops_nil ?_
        exact at_again k5104 (ρ1 := [(0, p0), (1, .func (.func 86) #[] #[(.pointer (some ⟨b1_0, f1_0, none⟩))]), (7, .int .i64 (x0.length : Int)), (8, .int .i64 (wrap64 (a5095 + 1)))]) (Nat.lt_succ_self _) ⟨_, ho5086, rfl, HM⟩ (Sub.cons rfl (Sub.cons rfl (Sub.cons rfl (Sub.cons rfl Sub.nil))))
    · replace ho5086 := cond_f hb5106 ho5086
      refine run_exit ?_
      refine at_then_exit ?_
      refine at_then_exit ?_
      refine at_block_exit ?_
      exact at_mid (ρ' := []) ⟨(Option.some.inj ho5086), rfl, HM⟩ Sub.nil
  · rintro _ w5115 ⟨rfl, rfl, HM⟩
    replace H := (thn_inr H)
    refine run_seq ?_
    refine run_region rfl ?_
    refine ox rfl rfl rfl rfl (ex_assign rfl rfl) ?_
    refine ops_nil (at_then ?_)
    refine run_ret ?_
    have hR := Option.some.inj H
    subst hR
    exact at_ret1 rfl rfl ⟨_, rfl, rfl, HM⟩
end Go.Proofs.YtecgbhfgkkpmhabGreat.Zk
