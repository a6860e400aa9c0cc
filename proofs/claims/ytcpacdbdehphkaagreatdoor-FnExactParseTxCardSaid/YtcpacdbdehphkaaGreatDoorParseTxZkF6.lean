/- What functions of the program compute, each as a plain function, and that they do. Conditions: as each theorem states them. -/
import Derived.Test.YtcpacdbdehphkaaGreatDoorParseTxZkF5
namespace Go.Proofs.YtcpacdbdehphkaaGreatDoor.Zk
open Go Go.RowKit Go.IntWalk Go.Proofs
set_option linter.unusedVariables false
set_option linter.unusedSimpArgs false
set_option maxRecDepth 100000
set_option maxHeartbeats 4000000
def slices_Index_impl_Ref.l0 (x0 : List Ref) (x1 : Ref) : Nat → Int → Option (Int ⊕ Unit)
  | 0, _ => none
  | k + 1, a3642 => (bif (decide (a3642 < (x0.length : Int))) then (chk (idxOk a3642 x0.length) (bif ((x1.fTx == ((gt x0 a3642).fTx)) && (x1.fAt == ((gt x0 a3642).fAt))) then some (.inl a3642) else slices_Index_impl_Ref.l0 x0 x1 k (wrap64 (a3642 + 1)))) else some (.inr ()))
theorem slices_Index_impl_Ref.l0_z (x0 : List Ref) (x1 : Ref) (a3642 : Int) : slices_Index_impl_Ref.l0 x0 x1 0 a3642 = none := rfl
theorem slices_Index_impl_Ref.l0_s (x0 : List Ref) (x1 : Ref) (k : Nat) (a3642 : Int) : slices_Index_impl_Ref.l0 x0 x1 (k + 1) a3642 = (bif (decide (a3642 < (x0.length : Int))) then (chk (idxOk a3642 x0.length) (bif ((x1.fTx == ((gt x0 a3642).fTx)) && (x1.fAt == ((gt x0 a3642).fAt))) then some (.inl a3642) else slices_Index_impl_Ref.l0 x0 x1 k (wrap64 (a3642 + 1)))) else some (.inr ())) := rfl
def slices_Index_impl_Ref.f (k : Nat) (x0 : List Ref) (x1 : Ref) : Option Int := ((slices_Index_impl_Ref.l0 x0 x1 k 0).bind fun o3636 => thn o3636 (fun r => some r) (fun _ => some (-1)))
theorem slices_Index_impl_Ref.calls {k : Nat} {x0 : List Ref} {x1 : Ref} {p0 : Value} {w : World} (hp0 : RdS kRef w p0 x0) {r : Int} (H : slices_Index_impl_Ref.f k x0 x1 = some r) :
    Calls Tryz.prog 71 ([p0, .agg #[(.int .i64 x1.fTx), (.int .i64 x1.fAt)]] : List Value).toArray w (fun e w_ => ∃ v, e = .returned v ∧ v = (.int .i64 r) ∧ Mem w [] w_ []) := by
  have HM := Mem.start w
  refine calls_run (N := 19) Tryz.func71 rfl rfl rfl rfl ?_
  unfold slices_Index_impl_Ref.f at H
  refine run_seq ?_
  refine run_region rfl ?_
  refine ops_does rfl (guard_none rfl) rfl rfl (does_box (cs := [.int .i64 x1.fTx, .int .i64 x1.fAt]) rfl rfl rfl HM) ?_
  rintro _ w3622 ⟨b3619, rfl, HM⟩
  refine ops_ex rfl (guard_none rfl) rfl rfl (ex_assign rfl rfl) ?_
  refine ops_nil ?_
  refine at_then ?_
  obtain ⟨o3636, ho3637, H⟩ := bind_some H
  refine run_mid (fun ρ_ w_ => Sum.inr () = o3636 ∧ ρ_ = [] ∧ Mem w [] w_ []) ?_ ?_
  · skip
    refine run_seq ?_
    refine run_region rfl ?_
    refine ops_ex rfl (guard_none rfl) rfl rfl (ex_move rfl rfl) ?_
    refine ops_ex rfl (guard_none rfl) rfl rfl (ex_len (d := kRef) (xs := x0) rfl rfl Tryz.underlying22 hp0) ?_
    refine ops_ex rfl (guard_none rfl) rfl rfl (ex_move rfl rfl) ?_
    refine ops_nil ?_
    refine at_then ?_
    refine run_block ?_
    refine run_loop (fun k_ ρ_ w_ => ∃ a3642 : Int, slices_Index_impl_Ref.l0 x0 x1 k_ a3642 = some o3636 ∧ ρ_ = [(0, p0), (3, .pointer (some ⟨b3619, 0, none⟩)), (7, .int .i64 (x0.length : Int)), (8, .int .i64 a3642)] ∧ Mem w [] w_ [box b3619 60 [.int .i64 x1.fTx, .int .i64 x1.fAt]]) k (ρ1 := [(0, p0), (3, .pointer (some ⟨b3619, 0, none⟩)), (7, .int .i64 (x0.length : Int)), (8, .int .i64 0)]) ⟨_, ho3637, rfl, HM⟩ (Sub.cons rfl (Sub.cons rfl (Sub.cons rfl (Sub.cons rfl Sub.nil)))) ?_
    clear HM ho3637
    rintro k3647 _ w3648 ⟨a3642, ho3637, rfl, HM⟩
    obtain _ | k3647 := k3647
    · exact nomatch ((slices_Index_impl_Ref.l0_z x0 x1 a3642).symm.trans ho3637)
    replace ho3637 := (slices_Index_impl_Ref.l0_s x0 x1 k3647 a3642).symm.trans ho3637
    refine run_seq ?_
    refine run_region rfl ?_
    refine ops_ex rfl (guard_none rfl) rfl rfl (ex_lss rfl rfl rfl) ?_
    refine ops_nil ?_
    refine at_then ?_
    refine run_seq ?_
    refine run_cond (b := (decide (a3642 < (x0.length : Int)))) rfl (fun hb3649 => ?_) (fun hb3649 => ?_)
    · replace ho3637 := cond_t hb3649 ho3637
      refine run_skip ?_
      refine at_then ?_
      refine run_seq ?_
      refine run_block ?_
      refine run_seq ?_
      refine run_region rfl ?_
      refine ops_ex rfl (guard_none rfl) rfl rfl (ex_move rfl rfl) ?_
      refine ops_ex rfl (guard_none rfl) rfl rfl (ex_assign rfl rfl) ?_
      refine ops_nil ?_
      refine at_then ?_
      refine run_seq ?_
      obtain ⟨e3650, ho3637⟩ := chk_some ho3637
      refine run_drawf (fun w_ => Mem w [] w_ [box b3619 60 [.int .i64 x1.fTx, .int .i64 x1.fAt]]) [(0, true), (1, true), (2, true), (3, true), (4, true), (5, true)] mixed rfl rfl (by kernel_rfl) ?_
      replace HM := HM.grow (fr_drew _)
      have hS := Mem.suf (M := []) HM
      refine drwp_take rfl (guard_none rfl) rfl rfl (fun w_ hS_ => (ex_loadN (cs := [(.int .i64 x1.fTx), (.int .i64 x1.fAt)]) rfl rfl Tryz.underlying60 rfl tsz60 rfl ((hS_.box_at 0 rfl).sub 0 2 rfl))) hS ?_
      refine drwp_take rfl (guard_none rfl) rfl rfl (fun w_ hS_ => (ex_move rfl rfl)) hS ?_
      refine drwp_take rfl (guard_none rfl) rfl rfl (fun w_ hS_ => (ex_move rfl rfl)) hS ?_
      have hc3651 : CellsAt _ (sb p0) (so p0 + (a3642).toNat * 2) [(.int .i64 ((gt x0 a3642).fTx)), (.int .i64 ((gt x0 a3642).fAt))] := rd_plain hp0 e3650
      refine drwp_take rfl (guard_none rfl) rfl rfl (fun w_ hS_ => (ex_indexAddr (d := kRef) rfl rfl rfl Tryz.underlying22 tsz60 hp0 (idx_lo e3650) (idx_hi e3650))) hS ?_
      refine drwp_take rfl (guard_none rfl) rfl rfl (fun w_ hS_ => (ex_loadN (cs := [(.int .i64 ((gt x0 a3642).fTx)), (.int .i64 ((gt x0 a3642).fAt))]) rfl rfl Tryz.underlying60 rfl tsz60 rfl ((hS_.at_ hc3651).sub 0 2 rfl))) hS ?_
      refine drwp_take rfl (guard_none rfl) rfl rfl (fun w_ hS_ => (ex_aeql rfl rfl rfl (by kernel_rfl) (eqs60 _ _ _ _ _))) hS ?_
      refine drwp_done ?_
      refine at_then ?_
      refine run_cond (b := ((x1.fTx == ((gt x0 a3642).fTx)) && (x1.fAt == ((gt x0 a3642).fAt)))) rfl (fun hb3652 => ?_) (fun hb3652 => ?_)
      · replace ho3637 := cond_t hb3652 ho3637
        refine run_seq ?_
        refine run_region rfl ?_
        refine ops_ex rfl (guard_none rfl) rfl rfl (ex_move rfl rfl) ?_
        refine ops_ex rfl (guard_none rfl) rfl rfl (ex_assign rfl rfl) ?_
        refine ops_nil ?_
        refine at_then ?_
        refine run_ret ?_
        refine at_block_ret ?_
        refine at_then_ret ?_
        refine at_then_ret ?_
        refine at_block_ret ?_
        refine at_then_ret ?_
        replace HM := (HM.front 0 rfl rfl).drop
        have hR := Option.some.inj ho3637
        subst hR
        have hT := thn_inl H
        have hR := Option.some.inj hT
        subst hR
        exact at_ret1 rfl rfl ⟨_, rfl, rfl, HM⟩
      · replace ho3637 := cond_f hb3652 ho3637
        refine run_skip ?_
        refine at_block ?_
        refine at_then ?_
        refine run_region rfl ?_
        refine ops_ex rfl (guard_none rfl) rfl rfl (ex_add rfl rfl rfl) ?_
        refine ops_ex rfl (guard_none rfl) rfl rfl (ex_move rfl rfl) ?_
        refine ops_nil ?_
        exact at_again k3647 (ρ1 := [(0, p0), (3, .pointer (some ⟨b3619, 0, none⟩)), (7, .int .i64 (x0.length : Int)), (8, .int .i64 (wrap64 (a3642 + 1)))]) (Nat.lt_succ_self _) ⟨_, ho3637, rfl, HM⟩ (Sub.cons rfl (Sub.cons rfl (Sub.cons rfl (Sub.cons rfl Sub.nil))))
    · replace ho3637 := cond_f hb3649 ho3637
      refine run_exit ?_
      refine at_then_exit ?_
      refine at_then_exit ?_
      refine at_block_exit ?_
      replace HM := (HM.front 0 rfl rfl).drop
      exact at_mid (ρ' := []) ⟨(Option.some.inj ho3637), rfl, HM⟩ Sub.nil
  · rintro _ w3653 ⟨rfl, rfl, HM⟩
    replace H := (thn_inr H)
    refine run_seq ?_
    refine run_region rfl ?_
    refine ops_ex rfl (guard_none rfl) rfl rfl (ex_assign rfl rfl) ?_
    refine ops_nil ?_
    refine at_then ?_
    refine run_ret ?_
    have hR := Option.some.inj H
    subst hR
    exact at_ret1 rfl rfl ⟨_, rfl, rfl, HM⟩

def slices_Contains_impl_Ref.f (k : Nat) (x0 : List Ref) (x1 : Ref) : Option Bool := ((slices_Index_impl_Ref.f k x0 x1).bind fun t3660 => some (decide (0 ≤ t3660)))
theorem slices_Contains_impl_Ref.calls {k : Nat} {x0 : List Ref} {x1 : Ref} {p0 : Value} {w : World} (hp0 : RdS kRef w p0 x0) {r : Bool} (H : slices_Contains_impl_Ref.f k x0 x1 = some r) :
    Calls Tryz.prog 52 ([p0, .agg #[(.int .i64 x1.fTx), (.int .i64 x1.fAt)]] : List Value).toArray w (fun e w_ => ∃ v, e = .returned v ∧ v = (.bool r) ∧ Mem w [] w_ []) := by
  have HM := Mem.start w
  refine calls_run (N := 9) Tryz.func52 rfl rfl rfl rfl ?_
  unfold slices_Contains_impl_Ref.f at H
  refine run_seq ?_
  refine run_region rfl ?_
  refine ops_does rfl (guard_none rfl) rfl rfl (does_box (cs := [.int .i64 x1.fTx, .int .i64 x1.fAt]) rfl rfl rfl HM) ?_
  rintro _ w3659 ⟨b3656, rfl, HM⟩
  refine ops_ex rfl (guard_none rfl) rfl rfl (ex_assign rfl rfl) ?_
  refine ops_nil ?_
  refine at_then ?_
  refine run_seq ?_
  obtain ⟨t3660, h3661, H⟩ := bind_some H
  refine run_region rfl ?_
  refine ops_ex rfl (guard_none rfl) rfl rfl (ex_move rfl rfl) ?_
  refine ops_ex rfl (guard_none rfl) rfl rfl (ex_loadN (cs := [(.int .i64 x1.fTx), (.int .i64 x1.fAt)]) rfl rfl Tryz.underlying60 rfl tsz60 rfl ((HM.box_at 0 rfl).sub 0 2 rfl)) ?_
  refine ops_does rfl (guard_none rfl) rfl rfl (does_callk rfl callok71 rfl (slices_Index_impl_Ref.calls (x0 := x0) (x1 := x1) (HM.rd hp0) h3661)) ?_
  rintro _ w3662 ⟨rfl, hn⟩
  replace HM : Mem w [] w3662 [box b3656 60 [.int .i64 x1.fTx, .int .i64 x1.fAt]] := HM.call hn
  refine ops_ex rfl (guard_none rfl) rfl rfl (ex_geq rfl rfl rfl) ?_
  refine ops_ex rfl (guard_none rfl) rfl rfl (ex_assign rfl rfl) ?_
  refine ops_nil ?_
  refine at_then ?_
  refine run_ret ?_
  replace HM := (HM.front 0 rfl rfl).drop
  have hR := Option.some.inj H
  subst hR
  exact at_ret1 rfl rfl ⟨_, rfl, rfl, HM⟩

def impl_outFault.f (k : Nat) (x0 : Out) : Option Int := ((impl_within.f k x0.fValue 1 1000000).bind fun t3727 => (bif !t3727 then some 3 else ((impl_RuleFault.f k x0.fRule).bind fun t3731 => some t3731)))
theorem impl_outFault.calls {k : Nat} {x0 : Out} {p0_0 : Value} {w : World} (hp0_0 : RdS kInt w p0_0 x0.fRule.fKeys) {r : Int} (H : impl_outFault.f k x0 = some r) :
    Calls Tryz.prog 53 ([.agg #[(.int .i64 x0.fValue), p0_0, (.int .i64 x0.fRule.fNeed), (.int .i64 x0.fRule.fAfter)]] : List Value).toArray w (fun e w_ => ∃ v, e = .returned v ∧ v = (.int .i64 r) ∧ Mem w [] w_ []) := by
  have HM := Mem.start w
  refine calls_run (N := 10) Tryz.func53 rfl rfl rfl rfl ?_
  unfold impl_outFault.f at H
  refine run_seq ?_
  refine run_region rfl ?_
  refine ops_does rfl (guard_none rfl) rfl rfl (does_box (cs := [.int .i64 x0.fValue, p0_0, .int .i64 x0.fRule.fNeed, .int .i64 x0.fRule.fAfter]) rfl rfl rfl HM) ?_
  rintro _ w3726 ⟨b3723, rfl, HM⟩
  refine ops_ex rfl (guard_none rfl) rfl rfl (ex_assign rfl rfl) ?_
  refine ops_nil ?_
  refine at_then ?_
  refine run_seq ?_
  refine run_seq ?_
  obtain ⟨t3727, h3728, H⟩ := bind_some H
  refine run_region rfl ?_
  refine ops_ex rfl (guard_none rfl) rfl rfl (ex_fieldAddr (off' := 0) rfl rfl Tryz.underlying49 rfl tsz2 rfl) ?_
  refine ops_ex rfl (guard_none rfl) rfl rfl (ex_load1 rfl rfl Tryz.underlying2 rfl ((HM.box_at 0 rfl) 0 _ rfl)) ?_
  refine ops_does rfl (guard_none rfl) rfl rfl (does_callk rfl callok49 rfl (impl_within.calls (x0 := x0.fValue) (x1 := 1) (x2 := 1000000) h3728)) ?_
  rintro _ w3729 ⟨rfl, hn⟩
  replace HM : Mem w [] w3729 [box b3723 49 [.int .i64 x0.fValue, p0_0, .int .i64 x0.fRule.fNeed, .int .i64 x0.fRule.fAfter]] := HM.call hn
  refine ops_ex rfl (guard_none rfl) rfl rfl (ex_not rfl rfl) ?_
  refine ops_nil ?_
  refine at_then ?_
  refine run_cond (b := !t3727) rfl (fun hb3730 => ?_) (fun hb3730 => ?_)
  · replace H := cond_t hb3730 H
    refine run_seq ?_
    refine run_region rfl ?_
    refine ops_ex rfl (guard_none rfl) rfl rfl (ex_assign rfl rfl) ?_
    refine ops_nil ?_
    refine at_then ?_
    refine run_ret ?_
    refine at_then_ret ?_
    replace HM := (HM.front 0 rfl rfl).drop
    have hR := Option.some.inj H
    subst hR
    exact at_ret1 rfl rfl ⟨_, rfl, rfl, HM⟩
  · replace H := cond_f hb3730 H
    refine run_skip ?_
    refine at_then ?_
    refine run_seq ?_
    obtain ⟨t3731, h3732, H⟩ := bind_some H
    refine run_region rfl ?_
    refine ops_ex rfl (guard_none rfl) rfl rfl (ex_fieldAddr (off' := 1) rfl rfl Tryz.underlying49 rfl tsz44 rfl) ?_
    refine ops_ex rfl (guard_none rfl) rfl rfl (ex_loadN (cs := [p0_0, (.int .i64 x0.fRule.fNeed), (.int .i64 x0.fRule.fAfter)]) rfl rfl Tryz.underlying44 rfl tsz44 rfl ((HM.box_at 0 rfl).sub 1 3 rfl)) ?_
    refine ops_does rfl (guard_none rfl) rfl rfl (does_callk rfl callok69 rfl (impl_RuleFault.calls (x0 := x0.fRule) (HM.rd hp0_0) h3732)) ?_
    rintro _ w3733 ⟨rfl, hn⟩
    replace HM : Mem w [] w3733 [box b3723 49 [.int .i64 x0.fValue, p0_0, .int .i64 x0.fRule.fNeed, .int .i64 x0.fRule.fAfter]] := HM.call hn
    refine ops_ex rfl (guard_none rfl) rfl rfl (ex_assign rfl rfl) ?_
    refine ops_nil ?_
    refine at_then ?_
    refine run_ret ?_
    replace HM := (HM.front 0 rfl rfl).drop
    have hR := Option.some.inj H
    subst hR
    exact at_ret1 rfl rfl ⟨_, rfl, rfl, HM⟩

def impl_TxFault.l0 (x0 : Tx) : Nat → Int → Option (Int ⊕ Unit)
  | 0, _ => none
  | k + 1, a3885 => (bif (decide (a3885 < (x0.fIns.length : Int))) then (chk (idxOk a3885 x0.fIns.length) ((impl_isRef.f k (gt x0.fIns a3885)).bind fun t3918 => (bif !t3918 then some (.inl 3) else (chk (cutOk a3885 x0.fIns.length) ((slices_Contains_impl_Ref.f k (x0.fIns.take (a3885).toNat) (gt x0.fIns a3885)).bind fun t3926 => (bif t3926 then some (.inl 7) else impl_TxFault.l0 x0 k (wrap64 (a3885 + 1)))))))) else some (.inr ()))
theorem impl_TxFault.l0_z (x0 : Tx) (a3885 : Int) : impl_TxFault.l0 x0 0 a3885 = none := rfl
theorem impl_TxFault.l0_s (x0 : Tx) (k : Nat) (a3885 : Int) : impl_TxFault.l0 x0 (k + 1) a3885 = (bif (decide (a3885 < (x0.fIns.length : Int))) then (chk (idxOk a3885 x0.fIns.length) ((impl_isRef.f k (gt x0.fIns a3885)).bind fun t3918 => (bif !t3918 then some (.inl 3) else (chk (cutOk a3885 x0.fIns.length) ((slices_Contains_impl_Ref.f k (x0.fIns.take (a3885).toNat) (gt x0.fIns a3885)).bind fun t3926 => (bif t3926 then some (.inl 7) else impl_TxFault.l0 x0 k (wrap64 (a3885 + 1)))))))) else some (.inr ())) := rfl
def impl_TxFault.l1 (x0 : Tx) : Nat → Int → Option (Int ⊕ Unit)
  | 0, _ => none
  | k + 1, a3978 => (bif (decide (a3978 < (x0.fOuts.length : Int))) then (chk (idxOk a3978 x0.fOuts.length) ((impl_outFault.f k (gt x0.fOuts a3978)).bind fun t4002 => (bif (t4002 != 0) then some (.inl t4002) else impl_TxFault.l1 x0 k (wrap64 (a3978 + 1))))) else some (.inr ()))
theorem impl_TxFault.l1_z (x0 : Tx) (a3978 : Int) : impl_TxFault.l1 x0 0 a3978 = none := rfl
theorem impl_TxFault.l1_s (x0 : Tx) (k : Nat) (a3978 : Int) : impl_TxFault.l1 x0 (k + 1) a3978 = (bif (decide (a3978 < (x0.fOuts.length : Int))) then (chk (idxOk a3978 x0.fOuts.length) ((impl_outFault.f k (gt x0.fOuts a3978)).bind fun t4002 => (bif (t4002 != 0) then some (.inl t4002) else impl_TxFault.l1 x0 k (wrap64 (a3978 + 1))))) else some (.inr ())) := rfl
def impl_TxFault.f (k : Nat) (x0 : Tx) : Option Int := ((impl_within.f k x0.fKind 0 2).bind fun t3782 => (bif ((!t3782) || ((x0.fKind == 0) != (x0.fMember == 0))) then some 1 else ((bif (x0.fMember != 0) then impl_isKey.f k x0.fMember else some default).bind fun t3789 => (bif ((x0.fMember != 0) && (!t3789)) then some 3 else ((impl_TxFault_1.f k (x0.fIns.length : Int)).bind fun t3796 => ((bif (!t3796) then impl_TxFault_1.f k (x0.fOuts.length : Int) else some default).bind fun t3798 => (bif (t3796 || t3798) then some 2 else ((impl_TxFault.l0 x0 k 0).bind fun o3864 => thn o3864 (fun r => some r) (fun _ => ((impl_TxFault.l1 x0 k 0).bind fun o3965 => thn o3965 (fun r => some r) (fun _ => (chk (!(x0.fKind == 1) || (idxOk (0 : Int) x0.fOuts.length)) (bif ((x0.fKind == 1) && (decide (((gt x0.fOuts (0 : Int)).fValue) < 100))) then some 8 else some 0)))))))))))))
theorem impl_TxFault.calls {k : Nat} {x0 : Tx} {p0_0 : Value} {p0_1 : Value} {w : World} (hp0_0 : RdS kRef w p0_0 x0.fIns) (hp0_1 : RdS kOut w p0_1 x0.fOuts) {r : Int} (H : impl_TxFault.f k x0 = some r) :
    Calls Tryz.prog 27 ([.agg #[(.int .i64 x0.fKind), (.int .i64 x0.fMember), p0_0, p0_1]] : List Value).toArray w (fun e w_ => ∃ v, e = .returned v ∧ v = (.int .i64 r) ∧ Mem w [] w_ []) := by
  have HM := Mem.start w
  refine calls_run (N := 88) Tryz.func27 rfl rfl rfl rfl ?_
  unfold impl_TxFault.f at H
  refine run_seq ?_
  refine run_region rfl ?_
  refine ops_does rfl (guard_none rfl) rfl rfl (does_box (cs := [.int .i64 x0.fKind, .int .i64 x0.fMember, p0_0, p0_1]) rfl rfl rfl HM) ?_
  rintro _ w3770 ⟨b3767, rfl, HM⟩
  refine ops_ex rfl (guard_none rfl) rfl rfl (ex_assign rfl rfl) ?_
  refine ops_nil ?_
  refine at_then ?_
  refine run_seq ?_
  refine run_region rfl ?_
  refine ops_ex rfl (guard_none rfl) rfl rfl (ex_assign rfl rfl) ?_
  refine ops_nil ?_
  refine at_then ?_
  refine run_seq ?_
  refine run_block ?_
  refine run_seq ?_
  obtain ⟨t3782, h3783, H⟩ := bind_some H
  refine run_meet (fun ρ_ w_ => ρ_ = [(1, .pointer (some ⟨b3767, 0, none⟩)), (3, .func (.func 48) #[] #[]), (9, .bool ((!t3782) || ((x0.fKind == 0) != (x0.fMember == 0))))] ∧ Mem w [] w_ [box b3767 25 [.int .i64 x0.fKind, .int .i64 x0.fMember, p0_0, p0_1]]) ?_ ?_
  · skip
    refine run_region rfl ?_
    refine ops_ex rfl (guard_none rfl) rfl rfl (ex_fieldAddr (off' := 0) rfl rfl Tryz.underlying25 rfl tsz2 rfl) ?_
    refine ops_ex rfl (guard_none rfl) rfl rfl (ex_load1 rfl rfl Tryz.underlying2 rfl ((HM.box_at 0 rfl) 0 _ rfl)) ?_
    refine ops_does rfl (guard_none rfl) rfl rfl (does_callk rfl callok49 rfl (impl_within.calls (x0 := x0.fKind) (x1 := 0) (x2 := 2) h3783)) ?_
    rintro _ w3784 ⟨rfl, hn⟩
    replace HM : Mem w [] w3784 [box b3767 25 [.int .i64 x0.fKind, .int .i64 x0.fMember, p0_0, p0_1]] := HM.call hn
    refine ops_ex rfl (guard_none rfl) rfl rfl (ex_not rfl rfl) ?_
    refine ops_ex rfl (guard_none rfl) rfl rfl (ex_move rfl rfl) ?_
    refine bool_cases (!t3782) (fun hg3785 => ?_) (fun hg3785 => ?_)
    · skip
      refine ops_off rfl (guard_off rfl rfl rfl hg3785) rfl rfl ?_
      refine ops_off rfl (guard_off rfl rfl rfl hg3785) rfl rfl ?_
      refine ops_off rfl (guard_off rfl rfl rfl hg3785) rfl rfl ?_
      refine ops_off rfl (guard_off rfl rfl rfl hg3785) rfl rfl ?_
      refine ops_off rfl (guard_off rfl rfl rfl hg3785) rfl rfl ?_
      refine ops_off rfl (guard_off rfl rfl rfl hg3785) rfl rfl ?_
      refine ops_off rfl (guard_off rfl rfl rfl hg3785) rfl rfl ?_
      have hg3786 : ((!t3782) || ((x0.fKind == 0) != (x0.fMember == 0))) = true := by simp only [hg3785, Bool.and_true, Bool.true_and, Bool.and_false, Bool.false_and, Bool.or_true, Bool.true_or, Bool.or_false, Bool.false_or, Bool.not_true, Bool.not_false, Bool.not_not]
      refine ops_ex (v := .bool ((!t3782) || ((x0.fKind == 0) != (x0.fMember == 0)))) rfl (guard_none rfl) rfl rfl (ex_por_t rfl rfl hg3785) ?_
      refine ops_ex rfl (guard_none rfl) rfl rfl (ex_assign rfl rfl) ?_
      refine ops_nil ?_
      exact at_meet [(1, .pointer (some ⟨b3767, 0, none⟩)), (3, .func (.func 48) #[] #[]), (9, .bool ((!t3782) || ((x0.fKind == 0) != (x0.fMember == 0))))] ⟨rfl, HM⟩ (Sub.cons rfl (Sub.cons rfl (Sub.cons rfl Sub.nil)))
    · skip
      refine ops_ex rfl (guard_on rfl rfl rfl hg3785) rfl rfl (ex_fieldAddr (off' := 0) rfl rfl Tryz.underlying25 rfl tsz2 rfl) ?_
      refine ops_ex rfl (guard_on rfl rfl rfl hg3785) rfl rfl (ex_load1 rfl rfl Tryz.underlying2 rfl ((HM.box_at 0 rfl) 0 _ rfl)) ?_
      refine ops_ex rfl (guard_on rfl rfl rfl hg3785) rfl rfl (ex_eql rfl rfl rfl) ?_
      refine ops_ex rfl (guard_on rfl rfl rfl hg3785) rfl rfl (ex_fieldAddr (off' := 1) rfl rfl Tryz.underlying25 rfl tsz2 rfl) ?_
      refine ops_ex rfl (guard_on rfl rfl rfl hg3785) rfl rfl (ex_load1 rfl rfl Tryz.underlying2 rfl ((HM.box_at 0 rfl) 1 _ rfl)) ?_
      refine ops_ex rfl (guard_on rfl rfl rfl hg3785) rfl rfl (ex_eql rfl rfl rfl) ?_
      refine ops_ex rfl (guard_on rfl rfl rfl hg3785) rfl rfl (ex_bneq rfl rfl rfl Tryz.underlying4) ?_
      refine ops_ex (v := .bool ((!t3782) || ((x0.fKind == 0) != (x0.fMember == 0)))) rfl (guard_none rfl) rfl rfl (ex_por_f rfl rfl hg3785 rfl) ?_
      refine ops_ex rfl (guard_none rfl) rfl rfl (ex_assign rfl rfl) ?_
      refine ops_nil ?_
      exact at_meet [(1, .pointer (some ⟨b3767, 0, none⟩)), (3, .func (.func 48) #[] #[]), (9, .bool ((!t3782) || ((x0.fKind == 0) != (x0.fMember == 0))))] ⟨rfl, HM⟩ (Sub.cons rfl (Sub.cons rfl (Sub.cons rfl Sub.nil)))
  · rintro _ w3787 ⟨rfl, HM⟩
    refine at_then ?_
    refine run_cond (b := ((!t3782) || ((x0.fKind == 0) != (x0.fMember == 0)))) rfl (fun hb3788 => ?_) (fun hb3788 => ?_)
    · replace H := cond_t hb3788 H
      refine run_seq ?_
      refine run_region rfl ?_
      refine ops_ex rfl (guard_none rfl) rfl rfl (ex_assign rfl rfl) ?_
      refine ops_nil ?_
      refine at_then ?_
      refine run_ret ?_
      refine at_block_ret ?_
      refine at_then_ret ?_
      replace HM := (HM.front 0 rfl rfl).drop
      have hR := Option.some.inj H
      subst hR
      exact at_ret1 rfl rfl ⟨_, rfl, rfl, HM⟩
    · replace H := cond_f hb3788 H
      refine run_seq ?_
      obtain ⟨t3789, h3790, H⟩ := bind_some H
      refine run_meet (fun ρ_ w_ => ρ_ = [(1, .pointer (some ⟨b3767, 0, none⟩)), (3, .func (.func 48) #[] #[]), (23, .bool ((x0.fMember != 0) && (!t3789)))] ∧ Mem w [] w_ [box b3767 25 [.int .i64 x0.fKind, .int .i64 x0.fMember, p0_0, p0_1]]) ?_ ?_
      · skip
        refine run_region rfl ?_
        refine ops_ex rfl (guard_none rfl) rfl rfl (ex_fieldAddr (off' := 1) rfl rfl Tryz.underlying25 rfl tsz2 rfl) ?_
        refine ops_ex rfl (guard_none rfl) rfl rfl (ex_load1 rfl rfl Tryz.underlying2 rfl ((HM.box_at 0 rfl) 1 _ rfl)) ?_
        refine ops_ex rfl (guard_none rfl) rfl rfl (ex_neq rfl rfl rfl) ?_
        refine ops_ex rfl (guard_none rfl) rfl rfl (ex_move rfl rfl) ?_
        refine bool_cases (x0.fMember != 0) (fun hg3791 => ?_) (fun hg3791 => ?_)
        · skip
          refine ops_ex rfl (guard_on rfl rfl rfl hg3791) rfl rfl (ex_fieldAddr (off' := 1) rfl rfl Tryz.underlying25 rfl tsz2 rfl) ?_
          refine ops_ex rfl (guard_on rfl rfl rfl hg3791) rfl rfl (ex_load1 rfl rfl Tryz.underlying2 rfl ((HM.box_at 0 rfl) 1 _ rfl)) ?_
          refine ops_does rfl (guard_on rfl rfl rfl hg3791) rfl rfl (does_callk rfl callok50 rfl (impl_isKey.calls (x0 := x0.fMember) (cond_t hg3791 h3790))) ?_
          rintro _ w3792 ⟨rfl, hn⟩
          replace HM : Mem w [] w3792 [box b3767 25 [.int .i64 x0.fKind, .int .i64 x0.fMember, p0_0, p0_1]] := HM.call hn
          refine ops_ex rfl (guard_on rfl rfl rfl hg3791) rfl rfl (ex_not rfl rfl) ?_
          refine ops_ex (v := .bool ((x0.fMember != 0) && (!t3789))) rfl (guard_none rfl) rfl rfl (ex_pand_t rfl rfl hg3791 rfl) ?_
          refine ops_ex rfl (guard_none rfl) rfl rfl (ex_assign rfl rfl) ?_
          refine ops_nil ?_
          exact at_meet [(1, .pointer (some ⟨b3767, 0, none⟩)), (3, .func (.func 48) #[] #[]), (23, .bool ((x0.fMember != 0) && (!t3789)))] ⟨rfl, HM⟩ (Sub.cons rfl (Sub.cons rfl (Sub.cons rfl Sub.nil)))
        · skip
          refine ops_off rfl (guard_off rfl rfl rfl hg3791) rfl rfl ?_
          refine ops_off rfl (guard_off rfl rfl rfl hg3791) rfl rfl ?_
          refine ops_off rfl (guard_off rfl rfl rfl hg3791) rfl rfl ?_
          refine ops_off rfl (guard_off rfl rfl rfl hg3791) rfl rfl ?_
          have hg3793 : ((x0.fMember != 0) && (!t3789)) = false := by simp only [hg3791, Bool.and_true, Bool.true_and, Bool.and_false, Bool.false_and, Bool.or_true, Bool.true_or, Bool.or_false, Bool.false_or, Bool.not_true, Bool.not_false, Bool.not_not]
          refine ops_ex (v := .bool ((x0.fMember != 0) && (!t3789))) rfl (guard_none rfl) rfl rfl (ex_pand_f rfl rfl hg3791) ?_
          refine ops_ex rfl (guard_none rfl) rfl rfl (ex_assign rfl rfl) ?_
          refine ops_nil ?_
          exact at_meet [(1, .pointer (some ⟨b3767, 0, none⟩)), (3, .func (.func 48) #[] #[]), (23, .bool ((x0.fMember != 0) && (!t3789)))] ⟨rfl, HM⟩ (Sub.cons rfl (Sub.cons rfl (Sub.cons rfl Sub.nil)))
      · rintro _ w3794 ⟨rfl, HM⟩
        refine at_then ?_
        refine run_cond (b := ((x0.fMember != 0) && (!t3789))) rfl (fun hb3795 => ?_) (fun hb3795 => ?_)
        · replace H := cond_t hb3795 H
          refine run_seq ?_
          refine run_region rfl ?_
          refine ops_ex rfl (guard_none rfl) rfl rfl (ex_assign rfl rfl) ?_
          refine ops_nil ?_
          refine at_then ?_
          refine run_ret ?_
          refine at_block_ret ?_
          refine at_then_ret ?_
          replace HM := (HM.front 0 rfl rfl).drop
          have hR := Option.some.inj H
          subst hR
          exact at_ret1 rfl rfl ⟨_, rfl, rfl, HM⟩
        · replace H := cond_f hb3795 H
          refine run_seq ?_
          obtain ⟨t3796, h3797, H⟩ := bind_some H
          obtain ⟨t3798, h3799, H⟩ := bind_some H
          refine run_meet (fun ρ_ w_ => ρ_ = [(1, .pointer (some ⟨b3767, 0, none⟩)), (33, .bool (t3796 || t3798))] ∧ Mem w [] w_ [box b3767 25 [.int .i64 x0.fKind, .int .i64 x0.fMember, p0_0, p0_1]]) ?_ ?_
          · skip
            refine run_region rfl ?_
            refine ops_ex rfl (guard_none rfl) rfl rfl (ex_move rfl rfl) ?_
            refine ops_ex rfl (guard_none rfl) rfl rfl (ex_fieldAddr (off' := 2) rfl rfl Tryz.underlying25 rfl tsz22 rfl) ?_
            refine ops_ex rfl (guard_none rfl) rfl rfl (ex_load1 rfl rfl Tryz.underlying22 rfl ((HM.box_at 0 rfl) 2 _ rfl)) ?_
            refine ops_ex rfl (guard_none rfl) rfl rfl (ex_len (d := kRef) (xs := x0.fIns) rfl rfl Tryz.underlying22 hp0_0) ?_
            refine ops_does rfl (guard_none rfl) rfl rfl (does_callvk rfl callok48 rfl rfl rfl (impl_TxFault_1.calls (x0 := (x0.fIns.length : Int)) h3797)) ?_
            rintro _ w3800 ⟨rfl, hn⟩
            replace HM : Mem w [] w3800 [box b3767 25 [.int .i64 x0.fKind, .int .i64 x0.fMember, p0_0, p0_1]] := HM.call hn
            refine ops_ex rfl (guard_none rfl) rfl rfl (ex_move rfl rfl) ?_
            refine bool_cases t3796 (fun hg3801 => ?_) (fun hg3801 => ?_)
            · skip
              refine ops_off rfl (guard_off rfl rfl rfl hg3801) rfl rfl ?_
              refine ops_off rfl (guard_off rfl rfl rfl hg3801) rfl rfl ?_
              refine ops_off rfl (guard_off rfl rfl rfl hg3801) rfl rfl ?_
              refine ops_off rfl (guard_off rfl rfl rfl hg3801) rfl rfl ?_
              refine ops_off rfl (guard_off rfl rfl rfl hg3801) rfl rfl ?_
              have hg3802 : (t3796 || t3798) = true := by simp only [hg3801, Bool.and_true, Bool.true_and, Bool.and_false, Bool.false_and, Bool.or_true, Bool.true_or, Bool.or_false, Bool.false_or, Bool.not_true, Bool.not_false, Bool.not_not]
              refine ops_ex (v := .bool (t3796 || t3798)) rfl (guard_none rfl) rfl rfl (ex_por_t rfl rfl hg3801) ?_
              refine ops_ex rfl (guard_none rfl) rfl rfl (ex_assign rfl rfl) ?_
              refine ops_nil ?_
              exact at_meet [(1, .pointer (some ⟨b3767, 0, none⟩)), (33, .bool (t3796 || t3798))] ⟨rfl, HM⟩ (Sub.cons rfl (Sub.cons rfl Sub.nil))
            · skip
              refine ops_ex rfl (guard_on rfl rfl rfl hg3801) rfl rfl (ex_move rfl rfl) ?_
              refine ops_ex rfl (guard_on rfl rfl rfl hg3801) rfl rfl (ex_fieldAddr (off' := 3) rfl rfl Tryz.underlying25 rfl tsz23 rfl) ?_
              refine ops_ex rfl (guard_on rfl rfl rfl hg3801) rfl rfl (ex_load1 rfl rfl Tryz.underlying23 rfl ((HM.box_at 0 rfl) 3 _ rfl)) ?_
              refine ops_ex rfl (guard_on rfl rfl rfl hg3801) rfl rfl (ex_len (d := kOut) (xs := x0.fOuts) rfl rfl Tryz.underlying23 hp0_1) ?_
              refine ops_does rfl (guard_on rfl rfl rfl hg3801) rfl rfl (does_callvk rfl callok48 rfl rfl rfl (impl_TxFault_1.calls (x0 := (x0.fOuts.length : Int)) (cond_t (not_mk hg3801) h3799))) ?_
              rintro _ w3803 ⟨rfl, hn⟩
              replace HM : Mem w [] w3803 [box b3767 25 [.int .i64 x0.fKind, .int .i64 x0.fMember, p0_0, p0_1]] := HM.call hn
              refine ops_ex (v := .bool (t3796 || t3798)) rfl (guard_none rfl) rfl rfl (ex_por_f rfl rfl hg3801 rfl) ?_
              refine ops_ex rfl (guard_none rfl) rfl rfl (ex_assign rfl rfl) ?_
              refine ops_nil ?_
              exact at_meet [(1, .pointer (some ⟨b3767, 0, none⟩)), (33, .bool (t3796 || t3798))] ⟨rfl, HM⟩ (Sub.cons rfl (Sub.cons rfl Sub.nil))
          · rintro _ w3804 ⟨rfl, HM⟩
            refine at_then ?_
            refine run_cond (b := (t3796 || t3798)) rfl (fun hb3805 => ?_) (fun hb3805 => ?_)
            · replace H := cond_t hb3805 H
              refine run_seq ?_
              refine run_region rfl ?_
              refine ops_ex rfl (guard_none rfl) rfl rfl (ex_assign rfl rfl) ?_
              refine ops_nil ?_
              refine at_then ?_
              refine run_ret ?_
              refine at_block_ret ?_
              refine at_then_ret ?_
              replace HM := (HM.front 0 rfl rfl).drop
              have hR := Option.some.inj H
              subst hR
              exact at_ret1 rfl rfl ⟨_, rfl, rfl, HM⟩
            · replace H := cond_f hb3805 H
              refine run_skip ?_
              refine at_block ?_
              refine at_then ?_
              obtain ⟨o3864, ho3865, H⟩ := bind_some H
              refine run_mid (fun ρ_ w_ => Sum.inr () = o3864 ∧ ρ_ = [(1, .pointer (some ⟨b3767, 0, none⟩))] ∧ Mem w [] w_ [box b3767 25 [.int .i64 x0.fKind, .int .i64 x0.fMember, p0_0, p0_1]]) ?_ ?_
              · skip
                refine run_seq ?_
                refine run_region rfl ?_
                refine ops_ex rfl (guard_none rfl) rfl rfl (ex_fieldAddr (off' := 2) rfl rfl Tryz.underlying25 rfl tsz22 rfl) ?_
                refine ops_ex rfl (guard_none rfl) rfl rfl (ex_load1 rfl rfl Tryz.underlying22 rfl ((HM.box_at 0 rfl) 2 _ rfl)) ?_
                refine ops_ex rfl (guard_none rfl) rfl rfl (ex_len (d := kRef) (xs := x0.fIns) rfl rfl Tryz.underlying22 hp0_0) ?_
                refine ops_ex rfl (guard_none rfl) rfl rfl (ex_move rfl rfl) ?_
                refine ops_nil ?_
                refine at_then ?_
                refine run_block ?_
                refine run_loop (fun k_ ρ_ w_ => ∃ a3885 : Int, impl_TxFault.l0 x0 k_ a3885 = some o3864 ∧ ρ_ = [(1, .pointer (some ⟨b3767, 0, none⟩)), (47, p0_0), (48, .int .i64 (x0.fIns.length : Int)), (49, .int .i64 a3885)] ∧ Mem w [] w_ [box b3767 25 [.int .i64 x0.fKind, .int .i64 x0.fMember, p0_0, p0_1]]) k (ρ1 := [(1, .pointer (some ⟨b3767, 0, none⟩)), (47, p0_0), (48, .int .i64 (x0.fIns.length : Int)), (49, .int .i64 0)]) ⟨_, ho3865, rfl, HM⟩ (Sub.cons rfl (Sub.cons rfl (Sub.cons rfl (Sub.cons rfl Sub.nil)))) ?_
                clear HM ho3865
                rintro k3905 _ w3906 ⟨a3885, ho3865, rfl, HM⟩
                obtain _ | k3905 := k3905
                · exact nomatch ((impl_TxFault.l0_z x0 a3885).symm.trans ho3865)
                replace ho3865 := (impl_TxFault.l0_s x0 k3905 a3885).symm.trans ho3865
                refine run_seq ?_
                refine run_region rfl ?_
                refine ops_ex rfl (guard_none rfl) rfl rfl (ex_lss rfl rfl rfl) ?_
                refine ops_nil ?_
                refine at_then ?_
                refine run_seq ?_
                refine run_cond (b := (decide (a3885 < (x0.fIns.length : Int)))) rfl (fun hb3907 => ?_) (fun hb3907 => ?_)
                · replace ho3865 := cond_t hb3907 ho3865
                  refine run_skip ?_
                  refine at_then ?_
                  refine run_seq ?_
                  refine run_block ?_
                  refine run_seq ?_
                  obtain ⟨e3908, ho3865⟩ := chk_some ho3865
                  refine run_region rfl ?_
                  refine ops_ex rfl (guard_none rfl) rfl rfl (ex_move rfl rfl) ?_
                  have hc3909 : CellsAt _ (sb p0_0) (so p0_0 + (a3885).toNat * 2) [(.int .i64 ((gt x0.fIns a3885).fTx)), (.int .i64 ((gt x0.fIns a3885).fAt))] := rd_plain hp0_0 e3908
                  refine ops_ex rfl (guard_none rfl) rfl rfl (ex_indexAddr (d := kRef) rfl rfl rfl Tryz.underlying22 tsz60 hp0_0 (idx_lo e3908) (idx_hi e3908)) ?_
                  refine ops_ex rfl (guard_none rfl) rfl rfl (ex_loadN (cs := [(.int .i64 ((gt x0.fIns a3885).fTx)), (.int .i64 ((gt x0.fIns a3885).fAt))]) rfl rfl Tryz.underlying60 rfl tsz60 rfl ((HM.at_ hc3909).sub 0 2 rfl)) ?_
                  refine ops_does rfl (guard_none rfl) rfl rfl (does_alloc (cs := [.int .i64 0, .int .i64 0]) rfl tz60 rfl HM) ?_
                  rintro _ w3913 ⟨b3910, rfl, HM⟩
                  refine ops_ex rfl (guard_none rfl) rfl rfl (ex_assign rfl rfl) ?_
                  refine ops_doesS rfl (guard_none rfl) rfl (does_store (vs := [.int .i64 ((gt x0.fIns a3885).fTx), .int .i64 ((gt x0.fIns a3885).fAt)]) (cs' := [.int .i64 ((gt x0.fIns a3885).fTx), .int .i64 ((gt x0.fIns a3885).fAt)]) rfl rfl rfl rfl tsz60 (Ones.int (Ones.int Ones.nil)) rfl rfl HM) ?_
                  rintro w3914 HM
                  refine ops_nil ?_
                  refine at_then ?_
                  refine run_seq ?_
                  refine run_seq ?_
                  obtain ⟨t3918, h3919, ho3865⟩ := bind_some ho3865
                  refine run_region rfl ?_
                  refine ops_ex rfl (guard_none rfl) rfl rfl (ex_loadN (cs := [(.int .i64 ((gt x0.fIns a3885).fTx)), (.int .i64 ((gt x0.fIns a3885).fAt))]) rfl rfl Tryz.underlying60 rfl tsz60 rfl ((HM.box_at 0 rfl).sub 0 2 rfl)) ?_
                  refine ops_does rfl (guard_none rfl) rfl rfl (does_callk rfl callok51 rfl (impl_isRef.calls (x0 := (gt x0.fIns a3885)) h3919)) ?_
                  rintro _ w3920 ⟨rfl, hn⟩
                  replace HM : Mem w [] w3920 [box b3910 60 [.int .i64 ((gt x0.fIns a3885).fTx), .int .i64 ((gt x0.fIns a3885).fAt)], box b3767 25 [.int .i64 x0.fKind, .int .i64 x0.fMember, p0_0, p0_1]] := HM.call hn
                  refine ops_ex rfl (guard_none rfl) rfl rfl (ex_not rfl rfl) ?_
                  refine ops_nil ?_
                  refine at_then ?_
                  refine run_cond (b := !t3918) rfl (fun hb3921 => ?_) (fun hb3921 => ?_)
                  · replace ho3865 := cond_t hb3921 ho3865
                    refine run_seq ?_
                    refine run_region rfl ?_
                    refine ops_ex rfl (guard_none rfl) rfl rfl (ex_assign rfl rfl) ?_
                    refine ops_nil ?_
                    refine at_then ?_
                    refine run_ret ?_
                    refine at_then_ret ?_
                    refine at_block_ret ?_
                    refine at_then_ret ?_
                    refine at_then_ret ?_
                    refine at_block_ret ?_
                    refine at_then_ret ?_
                    replace HM := (HM.front 0 rfl rfl).drop
                    replace HM := (HM.front 0 rfl rfl).drop
                    have hR := Option.some.inj ho3865
                    subst hR
                    have hT := thn_inl H
                    have hR := Option.some.inj hT
                    subst hR
                    exact at_ret1 rfl rfl ⟨_, rfl, rfl, HM⟩
                  · replace ho3865 := cond_f hb3921 ho3865
                    refine run_skip ?_
                    refine at_then ?_
                    refine run_seq ?_
                    obtain ⟨e3922, ho3865⟩ := chk_some ho3865
                    obtain ⟨t3926, h3927, ho3865⟩ := bind_some ho3865
                    refine run_drawf (fun w_ => Mem w [] w_ [box b3910 60 [.int .i64 ((gt x0.fIns a3885).fTx), .int .i64 ((gt x0.fIns a3885).fAt)], box b3767 25 [.int .i64 x0.fKind, .int .i64 x0.fMember, p0_0, p0_1]]) [(0, true), (1, true), (2, true), (3, true), (4, true), (5, false)] mixed rfl rfl (by kernel_rfl) ?_
                    replace HM := HM.grow (fr_drew _)
                    have hS := Mem.suf (M := []) HM
                    refine drwp_take rfl (guard_none rfl) rfl rfl (fun w_ hS_ => (ex_fieldAddr (off' := 2) rfl rfl Tryz.underlying25 rfl tsz22 rfl)) hS ?_
                    refine drwp_take rfl (guard_none rfl) rfl rfl (fun w_ hS_ => (ex_load1 rfl rfl Tryz.underlying22 rfl ((hS_.box_at 1 rfl) 2 _ rfl))) hS ?_
                    refine drwp_take rfl (guard_none rfl) rfl rfl (fun w_ hS_ => (ex_move rfl rfl)) hS ?_
                    refine drwp_takeE rfl (guard_none rfl) rfl rfl (ex_cutH kRef rfl rfl rfl Tryz.underlying22 tsz60 hp0_0 e3922) hS ?_
                    rintro u3923 hr3925
                    refine drwp_take rfl (guard_none rfl) rfl rfl (fun w_ hS_ => (ex_loadN (cs := [(.int .i64 ((gt x0.fIns a3885).fTx)), (.int .i64 ((gt x0.fIns a3885).fAt))]) rfl rfl Tryz.underlying60 rfl tsz60 rfl ((hS_.box_at 0 rfl).sub 0 2 rfl))) hS ?_
                    refine drwp_one rfl (guard_none rfl) rfl rfl (does_callk rfl callok52 rfl (slices_Contains_impl_Ref.calls (x0 := x0.fIns.take (a3885).toNat) (x1 := (gt x0.fIns a3885)) (HM.rd hr3925) h3927)) ?_
                    rintro _ w3928 ⟨rfl, hn⟩
                    replace HM : Mem w [] w3928 [box b3910 60 [.int .i64 ((gt x0.fIns a3885).fTx), .int .i64 ((gt x0.fIns a3885).fAt)], box b3767 25 [.int .i64 x0.fKind, .int .i64 x0.fMember, p0_0, p0_1]] := HM.call hn
                    refine ⟨Mem.suf (M := []) HM, ?_⟩
                    have hS := Mem.suf (M := []) HM
                    refine drwp_done ?_
                    refine at_then ?_
                    refine run_cond (b := t3926) rfl (fun hb3929 => ?_) (fun hb3929 => ?_)
                    · replace ho3865 := cond_t hb3929 ho3865
                      refine run_seq ?_
                      refine run_region rfl ?_
                      refine ops_ex rfl (guard_none rfl) rfl rfl (ex_assign rfl rfl) ?_
                      refine ops_nil ?_
                      refine at_then ?_
                      refine run_ret ?_
                      refine at_block_ret ?_
                      refine at_then_ret ?_
                      refine at_then_ret ?_
                      refine at_block_ret ?_
                      refine at_then_ret ?_
                      replace HM := (HM.front 0 rfl rfl).drop
                      replace HM := (HM.front 0 rfl rfl).drop
                      have hR := Option.some.inj ho3865
                      subst hR
                      have hT := thn_inl H
                      have hR := Option.some.inj hT
                      subst hR
                      exact at_ret1 rfl rfl ⟨_, rfl, rfl, HM⟩
                    · replace ho3865 := cond_f hb3929 ho3865
                      refine run_skip ?_
                      refine at_block ?_
                      refine at_then ?_
                      refine run_region rfl ?_
                      refine ops_ex rfl (guard_none rfl) rfl rfl (ex_add rfl rfl rfl) ?_
                      refine ops_ex rfl (guard_none rfl) rfl rfl (ex_move rfl rfl) ?_
                      refine ops_nil ?_
                      replace HM := (HM.front 0 rfl rfl).drop
                      exact at_again k3905 (ρ1 := [(1, .pointer (some ⟨b3767, 0, none⟩)), (47, p0_0), (48, .int .i64 (x0.fIns.length : Int)), (49, .int .i64 (wrap64 (a3885 + 1)))]) (Nat.lt_succ_self _) ⟨_, ho3865, rfl, HM⟩ (Sub.cons rfl (Sub.cons rfl (Sub.cons rfl (Sub.cons rfl Sub.nil))))
                · replace ho3865 := cond_f hb3907 ho3865
                  refine run_exit ?_
                  refine at_then_exit ?_
                  refine at_then_exit ?_
                  refine at_block_exit ?_
                  exact at_mid (ρ' := [(1, .pointer (some ⟨b3767, 0, none⟩))]) ⟨(Option.some.inj ho3865), rfl, HM⟩ (Sub.cons rfl Sub.nil)
              · rintro _ w3930 ⟨rfl, rfl, HM⟩
                replace H := (thn_inr H)
                obtain ⟨o3965, ho3966, H⟩ := bind_some H
                refine run_mid (fun ρ_ w_ => Sum.inr () = o3965 ∧ ρ_ = [(1, .pointer (some ⟨b3767, 0, none⟩))] ∧ Mem w [] w_ [box b3767 25 [.int .i64 x0.fKind, .int .i64 x0.fMember, p0_0, p0_1]]) ?_ ?_
                · skip
                  refine run_seq ?_
                  refine run_region rfl ?_
                  refine ops_ex rfl (guard_none rfl) rfl rfl (ex_fieldAddr (off' := 3) rfl rfl Tryz.underlying25 rfl tsz23 rfl) ?_
                  refine ops_ex rfl (guard_none rfl) rfl rfl (ex_load1 rfl rfl Tryz.underlying23 rfl ((HM.box_at 0 rfl) 3 _ rfl)) ?_
                  refine ops_ex rfl (guard_none rfl) rfl rfl (ex_len (d := kOut) (xs := x0.fOuts) rfl rfl Tryz.underlying23 hp0_1) ?_
                  refine ops_ex rfl (guard_none rfl) rfl rfl (ex_move rfl rfl) ?_
                  refine ops_nil ?_
                  refine at_then ?_
                  refine run_block ?_
                  refine run_loop (fun k_ ρ_ w_ => ∃ a3978 : Int, impl_TxFault.l1 x0 k_ a3978 = some o3965 ∧ ρ_ = [(1, .pointer (some ⟨b3767, 0, none⟩)), (65, p0_1), (66, .int .i64 (x0.fOuts.length : Int)), (67, .int .i64 a3978)] ∧ Mem w [] w_ [box b3767 25 [.int .i64 x0.fKind, .int .i64 x0.fMember, p0_0, p0_1]]) k (ρ1 := [(1, .pointer (some ⟨b3767, 0, none⟩)), (65, p0_1), (66, .int .i64 (x0.fOuts.length : Int)), (67, .int .i64 0)]) ⟨_, ho3966, rfl, HM⟩ (Sub.cons rfl (Sub.cons rfl (Sub.cons rfl (Sub.cons rfl Sub.nil)))) ?_
                  clear HM ho3966
                  rintro k3990 _ w3991 ⟨a3978, ho3966, rfl, HM⟩
                  obtain _ | k3990 := k3990
                  · exact nomatch ((impl_TxFault.l1_z x0 a3978).symm.trans ho3966)
                  replace ho3966 := (impl_TxFault.l1_s x0 k3990 a3978).symm.trans ho3966
                  refine run_seq ?_
                  refine run_region rfl ?_
                  refine ops_ex rfl (guard_none rfl) rfl rfl (ex_lss rfl rfl rfl) ?_
                  refine ops_nil ?_
                  refine at_then ?_
                  refine run_seq ?_
                  refine run_cond (b := (decide (a3978 < (x0.fOuts.length : Int)))) rfl (fun hb3992 => ?_) (fun hb3992 => ?_)
                  · replace ho3966 := cond_t hb3992 ho3966
                    refine run_skip ?_
                    refine at_then ?_
                    refine run_seq ?_
                    refine run_block ?_
                    refine run_seq ?_
                    obtain ⟨e3993, ho3966⟩ := chk_some ho3966
                    refine run_region rfl ?_
                    obtain ⟨kv3995, hc3994, hk3996⟩ : ∃ u, CellsAt _ (sb p0_1) (so p0_1 + (a3978).toNat * 4) [(.int .i64 ((gt x0.fOuts a3978).fValue)), u, (.int .i64 ((gt x0.fOuts a3978).fRule.fNeed)), (.int .i64 ((gt x0.fOuts a3978).fRule.fAfter))] ∧ RdS kInt _ u ((gt x0.fOuts a3978).fRule.fKeys) := rd_with1 hp0_1 e3993
                    refine ops_ex rfl (guard_none rfl) rfl rfl (ex_indexAddr (d := kOut) rfl rfl rfl Tryz.underlying23 tsz49 hp0_1 (idx_lo e3993) (idx_hi e3993)) ?_
                    refine ops_ex rfl (guard_none rfl) rfl rfl (ex_loadN (cs := [(.int .i64 ((gt x0.fOuts a3978).fValue)), kv3995, (.int .i64 ((gt x0.fOuts a3978).fRule.fNeed)), (.int .i64 ((gt x0.fOuts a3978).fRule.fAfter))]) rfl rfl Tryz.underlying49 rfl tsz49 rfl ((HM.at_ hc3994).sub 0 4 rfl)) ?_
                    refine ops_does rfl (guard_none rfl) rfl rfl (does_alloc (cs := [.int .i64 0, .slice none 0 0, .int .i64 0, .int .i64 0]) rfl tz49 rfl HM) ?_
                    rintro _ w4000 ⟨b3997, rfl, HM⟩
                    refine ops_doesS rfl (guard_none rfl) rfl (does_store (vs := [.int .i64 ((gt x0.fOuts a3978).fValue), kv3995, .int .i64 ((gt x0.fOuts a3978).fRule.fNeed), .int .i64 ((gt x0.fOuts a3978).fRule.fAfter)]) (cs' := [.int .i64 ((gt x0.fOuts a3978).fValue), kv3995, .int .i64 ((gt x0.fOuts a3978).fRule.fNeed), .int .i64 ((gt x0.fOuts a3978).fRule.fAfter)]) rfl rfl rfl rfl tsz49 (Ones.int (Ones.rd hk3996 (Ones.int (Ones.int Ones.nil)))) rfl rfl HM) ?_
                    rintro w4001 HM
                    refine ops_nil ?_
                    refine at_then ?_
                    refine run_seq ?_
                    obtain ⟨t4002, h4003, ho3966⟩ := bind_some ho3966
                    refine run_region rfl ?_
                    refine ops_ex rfl (guard_none rfl) rfl rfl (ex_loadN (cs := [(.int .i64 ((gt x0.fOuts a3978).fValue)), kv3995, (.int .i64 ((gt x0.fOuts a3978).fRule.fNeed)), (.int .i64 ((gt x0.fOuts a3978).fRule.fAfter))]) rfl rfl Tryz.underlying49 rfl tsz49 rfl ((HM.box_at 0 rfl).sub 0 4 rfl)) ?_
                    refine ops_does rfl (guard_none rfl) rfl rfl (does_callk rfl callok53 rfl (impl_outFault.calls (x0 := (gt x0.fOuts a3978)) (HM.rd hk3996) h4003)) ?_
                    rintro _ w4004 ⟨rfl, hn⟩
                    replace HM : Mem w [] w4004 [box b3997 49 [.int .i64 ((gt x0.fOuts a3978).fValue), kv3995, .int .i64 ((gt x0.fOuts a3978).fRule.fNeed), .int .i64 ((gt x0.fOuts a3978).fRule.fAfter)], box b3767 25 [.int .i64 x0.fKind, .int .i64 x0.fMember, p0_0, p0_1]] := HM.call hn
                    refine ops_ex rfl (guard_none rfl) rfl rfl (ex_assign rfl rfl) ?_
                    refine ops_nil ?_
                    refine at_then ?_
                    refine run_seq ?_
                    refine run_region rfl ?_
                    refine ops_ex rfl (guard_none rfl) rfl rfl (ex_move rfl rfl) ?_
                    refine ops_ex rfl (guard_none rfl) rfl rfl (ex_neq rfl rfl rfl) ?_
                    refine ops_nil ?_
                    refine at_then ?_
                    refine run_cond (b := (t4002 != 0)) rfl (fun hb4005 => ?_) (fun hb4005 => ?_)
                    · replace ho3966 := cond_t hb4005 ho3966
                      refine run_seq ?_
                      refine run_region rfl ?_
                      refine ops_ex rfl (guard_none rfl) rfl rfl (ex_move rfl rfl) ?_
                      refine ops_ex rfl (guard_none rfl) rfl rfl (ex_assign rfl rfl) ?_
                      refine ops_nil ?_
                      refine at_then ?_
                      refine run_ret ?_
                      refine at_block_ret ?_
                      refine at_then_ret ?_
                      refine at_then_ret ?_
                      refine at_block_ret ?_
                      refine at_then_ret ?_
                      replace HM := (HM.front 0 rfl rfl).drop
                      replace HM := (HM.front 0 rfl rfl).drop
                      have hR := Option.some.inj ho3966
                      subst hR
                      have hT := thn_inl H
                      have hR := Option.some.inj hT
                      subst hR
                      exact at_ret1 rfl rfl ⟨_, rfl, rfl, HM⟩
                    · replace ho3966 := cond_f hb4005 ho3966
                      refine run_skip ?_
                      refine at_block ?_
                      refine at_then ?_
                      refine run_region rfl ?_
                      refine ops_ex rfl (guard_none rfl) rfl rfl (ex_add rfl rfl rfl) ?_
                      refine ops_ex rfl (guard_none rfl) rfl rfl (ex_move rfl rfl) ?_
                      refine ops_nil ?_
                      replace HM := (HM.front 0 rfl rfl).drop
                      exact at_again k3990 (ρ1 := [(1, .pointer (some ⟨b3767, 0, none⟩)), (65, p0_1), (66, .int .i64 (x0.fOuts.length : Int)), (67, .int .i64 (wrap64 (a3978 + 1)))]) (Nat.lt_succ_self _) ⟨_, ho3966, rfl, HM⟩ (Sub.cons rfl (Sub.cons rfl (Sub.cons rfl (Sub.cons rfl Sub.nil))))
                  · replace ho3966 := cond_f hb3992 ho3966
                    refine run_exit ?_
                    refine at_then_exit ?_
                    refine at_then_exit ?_
                    refine at_block_exit ?_
                    exact at_mid (ρ' := [(1, .pointer (some ⟨b3767, 0, none⟩))]) ⟨(Option.some.inj ho3966), rfl, HM⟩ (Sub.cons rfl Sub.nil)
                · rintro _ w4006 ⟨rfl, rfl, HM⟩
                  replace H := (thn_inr H)
                  refine run_seq ?_
                  refine run_seq ?_
                  obtain ⟨e4007, H⟩ := chk_some H
                  refine run_meet (fun ρ_ w_ => ρ_ = [(87, .bool ((x0.fKind == 1) && (decide (((gt x0.fOuts (0 : Int)).fValue) < 100))))] ∧ Mem w [] w_ []) ?_ ?_
                  · skip
                    refine run_region rfl ?_
                    refine ops_ex rfl (guard_none rfl) rfl rfl (ex_fieldAddr (off' := 0) rfl rfl Tryz.underlying25 rfl tsz2 rfl) ?_
                    refine ops_ex rfl (guard_none rfl) rfl rfl (ex_load1 rfl rfl Tryz.underlying2 rfl ((HM.box_at 0 rfl) 0 _ rfl)) ?_
                    refine ops_ex rfl (guard_none rfl) rfl rfl (ex_eql rfl rfl rfl) ?_
                    refine ops_ex rfl (guard_none rfl) rfl rfl (ex_move rfl rfl) ?_
                    refine bool_cases (x0.fKind == 1) (fun hg4011 => ?_) (fun hg4011 => ?_)
                    · skip
                      refine ops_ex rfl (guard_on rfl rfl rfl hg4011) rfl rfl (ex_fieldAddr (off' := 3) rfl rfl Tryz.underlying25 rfl tsz23 rfl) ?_
                      refine ops_ex rfl (guard_on rfl rfl rfl hg4011) rfl rfl (ex_load1 rfl rfl Tryz.underlying23 rfl ((HM.box_at 0 rfl) 3 _ rfl)) ?_
                      obtain ⟨kv4009, hc4008, hk4010⟩ : ∃ u, CellsAt _ (sb p0_1) (so p0_1 + ((0 : Int)).toNat * 4) [(.int .i64 ((gt x0.fOuts (0 : Int)).fValue)), u, (.int .i64 ((gt x0.fOuts (0 : Int)).fRule.fNeed)), (.int .i64 ((gt x0.fOuts (0 : Int)).fRule.fAfter))] ∧ RdS kInt _ u ((gt x0.fOuts (0 : Int)).fRule.fKeys) := rd_with1 hp0_1 (or_t e4007 hg4011)
                      refine ops_ex rfl (guard_on rfl rfl rfl hg4011) rfl rfl (ex_indexAddr (d := kOut) rfl rfl rfl Tryz.underlying23 tsz49 hp0_1 (idx_lo (or_t e4007 hg4011)) (idx_hi (or_t e4007 hg4011))) ?_
                      refine ops_ex rfl (guard_on rfl rfl rfl hg4011) rfl rfl (ex_fieldAddr (off' := so p0_1 + ((0 : Int)).toNat * 4) rfl rfl Tryz.underlying49 rfl tsz2 rfl) ?_
                      refine ops_ex rfl (guard_on rfl rfl rfl hg4011) rfl rfl (ex_load1 rfl rfl Tryz.underlying2 rfl ((HM.at_ hc4008) 0 _ rfl)) ?_
                      refine ops_ex rfl (guard_on rfl rfl rfl hg4011) rfl rfl (ex_lss rfl rfl rfl) ?_
                      refine ops_ex (v := .bool ((x0.fKind == 1) && (decide (((gt x0.fOuts (0 : Int)).fValue) < 100)))) rfl (guard_none rfl) rfl rfl (ex_pand_t rfl rfl hg4011 rfl) ?_
                      refine ops_nil ?_
                      replace HM := (HM.front 0 rfl rfl).drop
                      exact at_meet [(87, .bool ((x0.fKind == 1) && (decide (((gt x0.fOuts (0 : Int)).fValue) < 100))))] ⟨rfl, HM⟩ (Sub.cons rfl Sub.nil)
                    · skip
                      refine ops_off rfl (guard_off rfl rfl rfl hg4011) rfl rfl ?_
                      refine ops_off rfl (guard_off rfl rfl rfl hg4011) rfl rfl ?_
                      refine ops_off rfl (guard_off rfl rfl rfl hg4011) rfl rfl ?_
                      refine ops_off rfl (guard_off rfl rfl rfl hg4011) rfl rfl ?_
                      refine ops_off rfl (guard_off rfl rfl rfl hg4011) rfl rfl ?_
                      refine ops_off rfl (guard_off rfl rfl rfl hg4011) rfl rfl ?_
                      have hg4012 : ((x0.fKind == 1) && (decide (((gt x0.fOuts (0 : Int)).fValue) < 100))) = false := by simp only [hg4011, Bool.and_true, Bool.true_and, Bool.and_false, Bool.false_and, Bool.or_true, Bool.true_or, Bool.or_false, Bool.false_or, Bool.not_true, Bool.not_false, Bool.not_not]
                      refine ops_ex (v := .bool ((x0.fKind == 1) && (decide (((gt x0.fOuts (0 : Int)).fValue) < 100)))) rfl (guard_none rfl) rfl rfl (ex_pand_f rfl rfl hg4011) ?_
                      refine ops_nil ?_
                      replace HM := (HM.front 0 rfl rfl).drop
                      exact at_meet [(87, .bool ((x0.fKind == 1) && (decide (((gt x0.fOuts (0 : Int)).fValue) < 100))))] ⟨rfl, HM⟩ (Sub.cons rfl Sub.nil)
                  · rintro _ w4013 ⟨rfl, HM⟩
                    refine at_then ?_
                    refine run_cond (b := ((x0.fKind == 1) && (decide (((gt x0.fOuts (0 : Int)).fValue) < 100)))) rfl (fun hb4014 => ?_) (fun hb4014 => ?_)
                    · replace H := cond_t hb4014 H
                      refine run_seq ?_
                      refine run_region rfl ?_
                      refine ops_ex rfl (guard_none rfl) rfl rfl (ex_assign rfl rfl) ?_
                      refine ops_nil ?_
                      refine at_then ?_
                      refine run_ret ?_
                      refine at_then_ret ?_
                      have hR := Option.some.inj H
                      subst hR
                      exact at_ret1 rfl rfl ⟨_, rfl, rfl, HM⟩
                    · replace H := cond_f hb4014 H
                      refine run_skip ?_
                      refine at_then ?_
                      refine run_seq ?_
                      refine run_region rfl ?_
                      refine ops_ex rfl (guard_none rfl) rfl rfl (ex_assign rfl rfl) ?_
                      refine ops_nil ?_
                      refine at_then ?_
                      refine run_ret ?_
                      have hR := Option.some.inj H
                      subst hR
                      exact at_ret1 rfl rfl ⟨_, rfl, rfl, HM⟩

def impl_txText.l0 (x0 : Tx) : Nat → (List ByteArray) → Int → Option ((List ByteArray))
  | 0, _, _ => none
  | k + 1, a4337, a4339 => (bif (decide (a4339 < (x0.fIns.length : Int))) then (chk (idxOk a4339 x0.fIns.length) ((impl_dec.f k ((gt x0.fIns a4339).fTx)).bind fun t4368 => (chk (leB (t4368.size + (⟨#[58]⟩ : ByteArray).size) 9223372036854775807) ((impl_dec.f k ((gt x0.fIns a4339).fAt)).bind fun t4371 => (chk (leB ((t4368 ++ (⟨#[58]⟩ : ByteArray)).size + t4371.size) 9223372036854775807) (chk (leB ((a4337.length + ([(t4368 ++ (⟨#[58]⟩ : ByteArray)) ++ t4371] : List ByteArray).length) * 16) 140737488355328) (impl_txText.l0 x0 k (a4337 ++ ([(t4368 ++ (⟨#[58]⟩ : ByteArray)) ++ t4371] : List ByteArray)) (wrap64 (a4339 + 1))))))))) else some a4337)
theorem impl_txText.l0_z (x0 : Tx) (a4337 : List ByteArray) (a4339 : Int) : impl_txText.l0 x0 0 a4337 a4339 = none := rfl
theorem impl_txText.l0_s (x0 : Tx) (k : Nat) (a4337 : List ByteArray) (a4339 : Int) : impl_txText.l0 x0 (k + 1) a4337 a4339 = (bif (decide (a4339 < (x0.fIns.length : Int))) then (chk (idxOk a4339 x0.fIns.length) ((impl_dec.f k ((gt x0.fIns a4339).fTx)).bind fun t4368 => (chk (leB (t4368.size + (⟨#[58]⟩ : ByteArray).size) 9223372036854775807) ((impl_dec.f k ((gt x0.fIns a4339).fAt)).bind fun t4371 => (chk (leB ((t4368 ++ (⟨#[58]⟩ : ByteArray)).size + t4371.size) 9223372036854775807) (chk (leB ((a4337.length + ([(t4368 ++ (⟨#[58]⟩ : ByteArray)) ++ t4371] : List ByteArray).length) * 16) 140737488355328) (impl_txText.l0 x0 k (a4337 ++ ([(t4368 ++ (⟨#[58]⟩ : ByteArray)) ++ t4371] : List ByteArray)) (wrap64 (a4339 + 1))))))))) else some a4337) := rfl
def impl_txText.l1 (x0 : Tx) : Nat → (List ByteArray) → Int → Option ((List ByteArray))
  | 0, _, _ => none
  | k + 1, a4486, a4488 => (bif (decide (a4488 < (x0.fOuts.length : Int))) then (chk (idxOk a4488 x0.fOuts.length) ((impl_dec.f k ((gt x0.fOuts a4488).fValue)).bind fun t4521 => (chk (leB (t4521.size + (⟨#[61]⟩ : ByteArray).size) 9223372036854775807) ((impl_ruleText.f k ((gt x0.fOuts a4488).fRule) (⟨#[95]⟩ : ByteArray)).bind fun t4524 => (chk (leB ((t4521 ++ (⟨#[61]⟩ : ByteArray)).size + t4524.size) 9223372036854775807) (chk (leB ((a4486.length + ([(t4521 ++ (⟨#[61]⟩ : ByteArray)) ++ t4524] : List ByteArray).length) * 16) 140737488355328) (impl_txText.l1 x0 k (a4486 ++ ([(t4521 ++ (⟨#[61]⟩ : ByteArray)) ++ t4524] : List ByteArray)) (wrap64 (a4488 + 1))))))))) else some a4486)
theorem impl_txText.l1_z (x0 : Tx) (a4486 : List ByteArray) (a4488 : Int) : impl_txText.l1 x0 0 a4486 a4488 = none := rfl
theorem impl_txText.l1_s (x0 : Tx) (k : Nat) (a4486 : List ByteArray) (a4488 : Int) : impl_txText.l1 x0 (k + 1) a4486 a4488 = (bif (decide (a4488 < (x0.fOuts.length : Int))) then (chk (idxOk a4488 x0.fOuts.length) ((impl_dec.f k ((gt x0.fOuts a4488).fValue)).bind fun t4521 => (chk (leB (t4521.size + (⟨#[61]⟩ : ByteArray).size) 9223372036854775807) ((impl_ruleText.f k ((gt x0.fOuts a4488).fRule) (⟨#[95]⟩ : ByteArray)).bind fun t4524 => (chk (leB ((t4521 ++ (⟨#[61]⟩ : ByteArray)).size + t4524.size) 9223372036854775807) (chk (leB ((a4486.length + ([(t4521 ++ (⟨#[61]⟩ : ByteArray)) ++ t4524] : List ByteArray).length) * 16) 140737488355328) (impl_txText.l1 x0 k (a4486 ++ ([(t4521 ++ (⟨#[61]⟩ : ByteArray)) ++ t4524] : List ByteArray)) (wrap64 (a4488 + 1))))))))) else some a4486) := rfl
def impl_txText.f (k : Nat) (x0 : Tx) : Option (ByteArray × Int) := ((impl_kindWords.f k).bind fun t4205 => (chk (idxOk x0.fKind t4205.length) ((bif (x0.fKind != 0) then ((impl_dec.f k x0.fMember).bind fun t4239 => (chk (leB ((([(gt t4205 x0.fKind)] : List ByteArray).length + ([t4239] : List ByteArray).length) * 16) 140737488355328) (some (([(gt t4205 x0.fKind)] : List ByteArray) ++ ([t4239] : List ByteArray))))) else some ([(gt t4205 x0.fKind)] : List ByteArray)).bind (fun a4234 => ((impl_txText.l0 x0 k ([] : List ByteArray) 0).bind (fun a4314 => ((strings_Join.f k a4314 (⟨#[43]⟩ : ByteArray)).bind fun t4385 => (chk (leB ((a4234.length + ([t4385] : List ByteArray).length) * 16) 140737488355328) ((impl_txText.l1 x0 k (a4234 ++ ([t4385] : List ByteArray)) 0).bind (fun a4461 => ((strings_Join.f k a4461 (⟨#[32]⟩ : ByteArray)).bind fun t4538 => (bif (decide (300 < (t4538.size : Int))) then some ((⟨#[]⟩ : ByteArray), 2) else some (t4538, 0)))))))))))))
theorem impl_txText.calls {k : Nat} {x0 : Tx} {p0_0 : Value} {p0_1 : Value} {w : World} (htab : TabP w) (hp0_0 : RdS kRef w p0_0 x0.fIns) (hp0_1 : RdS kOut w p0_1 x0.fOuts) {r : ByteArray × Int} (H : impl_txText.f k x0 = some r) :
    Calls Tryz.prog 28 ([.agg #[(.int .i64 x0.fKind), (.int .i64 x0.fMember), p0_0, p0_1]] : List Value).toArray w (fun e w_ => ∃ v, e = .returned v ∧ v = (.tuple #[.string r.1, .int .i64 r.2]) ∧ Mem w [] w_ []) := by
  have HM := Mem.start w
  refine calls_run (N := 76) Tryz.func28 rfl rfl rfl rfl ?_
  unfold impl_txText.f at H
  refine run_seq ?_
  refine run_region rfl ?_
  refine ops_does rfl (guard_none rfl) rfl rfl (does_box (cs := [.int .i64 x0.fKind, .int .i64 x0.fMember, p0_0, p0_1]) rfl rfl rfl HM) ?_
  rintro _ w4204 ⟨b4201, rfl, HM⟩
  refine ops_ex rfl (guard_none rfl) rfl rfl (ex_assign rfl rfl) ?_
  refine ops_ex rfl (guard_none rfl) rfl rfl (ex_assign rfl rfl) ?_
  refine ops_nil ?_
  refine at_then ?_
  refine run_seq ?_
  obtain ⟨t4205, h4206, H⟩ := bind_some H
  obtain ⟨e4209, H⟩ := chk_some H
  refine run_drawf (fun w_ => Mem w [] w_ [box b4201 25 [.int .i64 x0.fKind, .int .i64 x0.fMember, p0_0, p0_1]]) [(1, true), (2, true), (0, false), (3, true), (4, false), (5, false), (6, true)] mixed rfl rfl (by kernel_rfl) ?_
  replace HM := HM.grow (fr_drew _)
  have hS := Mem.suf (M := []) HM
  refine drwp_take rfl (guard_none rfl) rfl rfl (fun w_ hS_ => (ex_fieldAddr (off' := 0) rfl rfl Tryz.underlying25 rfl tsz2 rfl)) hS ?_
  refine drwp_take rfl (guard_none rfl) rfl rfl (fun w_ hS_ => (ex_load1 rfl rfl Tryz.underlying2 rfl ((hS_.box_at 0 rfl) 0 _ rfl))) hS ?_
  refine drwp_one rfl (guard_none rfl) rfl rfl (does_callk rfl callok23 rfl (impl_kindWords.calls h4206)) ?_
  rintro u4207 w4213 ⟨_, rfl, hn⟩
  replace HM : Mem w [] w4213 [own kStr 9 u4207 t4205, box b4201 25 [.int .i64 x0.fKind, .int .i64 x0.fMember, p0_0, p0_1]] := HM.call hn
  refine ⟨Mem.suf (M := [own kStr 9 u4207 t4205]) HM, ?_⟩
  have hS := Mem.suf (M := [own kStr 9 u4207 t4205]) HM
  refine drwp_take rfl (guard_none rfl) rfl rfl (fun w_ hS_ => (ex_indexAddr (d := kStr) rfl rfl rfl Tryz.underlying36 tsz9 (HM.own_rd 0 rfl) (idx_lo e4209) (idx_hi e4209))) hS ?_
  refine drwp_one rfl (guard_none rfl) rfl rfl (does_ex (ex_load1 rfl rfl Tryz.underlying9 rfl ((rd_plain (HM.own_rd 0 rfl) e4209) 0 _ rfl))) ?_
  rintro _ _ ⟨rfl, rfl⟩
  refine ⟨hS, ?_⟩
  refine drwp_one rfl (guard_none rfl) rfl rfl (does_lit (e := 9) (cs := [.string (gt t4205 x0.fKind)]) (xs := ([(gt t4205 x0.fKind)] : List ByteArray)) kStr rfl rfl (fun _ => by kernel_rfl) rfl rfl (fun _ _ h => by have h' : _ = [] := h; subst h'; exact (Elems.cons (d := kStr) (x := (gt t4205 x0.fKind)) (f := []) ⟨rfl, rfl⟩ .nil)) HM.emp) ?_
  rintro v4210 w4214 HM
  refine ⟨Mem.suf (M := [own kStr 9 v4210 ([(gt t4205 x0.fKind)] : List ByteArray), own kStr 9 u4207 t4205]) HM, ?_⟩
  have hS := Mem.suf (M := [own kStr 9 v4210 ([(gt t4205 x0.fKind)] : List ByteArray), own kStr 9 u4207 t4205]) HM
  refine drwp_take rfl (guard_none rfl) rfl rfl (fun w_ hS_ => (ex_assign rfl rfl)) hS ?_
  refine drwp_done ?_
  refine at_then ?_
  obtain ⟨o4236, ho4237, H⟩ := bind_some H
  refine run_mid (fun ρ_ w_ => ∃ v4233 : Value, ∃ a4234 : List ByteArray, a4234 = o4236 ∧ ρ_ = [(1, .pointer (some ⟨b4201, 0, none⟩)), (4, v4233)] ∧ Mem w [] w_ [box b4201 25 [.int .i64 x0.fKind, .int .i64 x0.fMember, p0_0, p0_1], own kStr 9 v4233 a4234]) ?_ ?_
  · clear H
    refine run_seq ?_
    refine run_region rfl ?_
    refine ops_ex rfl (guard_none rfl) rfl rfl (ex_fieldAddr (off' := 0) rfl rfl Tryz.underlying25 rfl tsz2 rfl) ?_
    refine ops_ex rfl (guard_none rfl) rfl rfl (ex_load1 rfl rfl Tryz.underlying2 rfl ((HM.box_at 2 rfl) 0 _ rfl)) ?_
    refine ops_ex rfl (guard_none rfl) rfl rfl (ex_neq rfl rfl rfl) ?_
    refine ops_nil ?_
    refine at_then ?_
    refine run_cond (b := (x0.fKind != 0)) rfl (fun hb4238 => ?_) (fun hb4238 => ?_)
    · replace ho4237 := cond_t hb4238 ho4237
      obtain ⟨t4239, h4240, ho4237⟩ := bind_some ho4237
      obtain ⟨e4244, ho4237⟩ := chk_some ho4237
      refine run_region rfl ?_
      refine ops_ex rfl (guard_none rfl) rfl rfl (ex_move rfl rfl) ?_
      refine ops_ex rfl (guard_none rfl) rfl rfl (ex_fieldAddr (off' := 1) rfl rfl Tryz.underlying25 rfl tsz2 rfl) ?_
      refine ops_ex rfl (guard_none rfl) rfl rfl (ex_load1 rfl rfl Tryz.underlying2 rfl ((HM.box_at 2 rfl) 1 _ rfl)) ?_
      refine ops_does rfl (guard_none rfl) rfl rfl (does_callk rfl callok45 rfl (impl_dec.calls (x0 := x0.fMember) (HM.tabP htab) h4240)) ?_
      rintro _ w4247 ⟨rfl, hn⟩
      replace HM : Mem w [] w4247 [own kStr 9 v4210 ([(gt t4205 x0.fKind)] : List ByteArray), own kStr 9 u4207 t4205, box b4201 25 [.int .i64 x0.fKind, .int .i64 x0.fMember, p0_0, p0_1]] := HM.call hn
      refine ops_does rfl (guard_none rfl) rfl rfl (does_lit (e := 9) (cs := [.string t4239]) (xs := ([t4239] : List ByteArray)) kStr rfl rfl (fun _ => by kernel_rfl) rfl rfl (fun _ _ h => by have h' : _ = [] := h; subst h'; exact (Elems.cons (d := kStr) (x := t4239) (f := []) ⟨rfl, rfl⟩ .nil)) HM.emp) ?_
      rintro v4241 w4248 HM
      replace HM := HM.front 1 rfl rfl
      refine ops_does rfl (guard_none rfl) rfl rfl (does_appendR kStr flat_plain rfl rfl rfl Tryz.underlying36 tsz9 rfl tby9 tz9 rfl rfl (leB_le e4244) (HM.own_rd 1 rfl) HM) ?_
      rintro v4245 w4249 HM
      refine ops_ex rfl (guard_none rfl) rfl rfl (ex_assign rfl rfl) ?_
      refine ops_nil ?_
      replace HM := (HM.front 1 rfl rfl).drop
      replace HM := (HM.front 1 rfl rfl).drop
      replace HM := HM.front 1 rfl rfl
      exact at_mid (ρ' := [(1, .pointer (some ⟨b4201, 0, none⟩)), (4, v4245)]) ⟨_, _, (Option.some.inj ho4237), rfl, HM⟩ (Sub.cons rfl (Sub.cons rfl Sub.nil))
    · replace ho4237 := cond_f hb4238 ho4237
      refine run_skip ?_
      replace HM := (HM.front 1 rfl rfl).drop
      replace HM := HM.front 1 rfl rfl
      exact at_mid (ρ' := [(1, .pointer (some ⟨b4201, 0, none⟩)), (4, v4210)]) ⟨_, _, (Option.some.inj ho4237), rfl, HM⟩ (Sub.cons rfl (Sub.cons rfl Sub.nil))
  · rintro _ w4250 ⟨v4233, a4234, rfl, rfl, HM⟩
    refine run_seq ?_
    refine run_region rfl ?_
    refine ops_does rfl (guard_none rfl) rfl rfl (does_lit (e := 9) (cs := []) (xs := ([] : List ByteArray)) kStr rfl rfl (fun _ => by kernel_rfl) rfl rfl (fun _ _ h => by have h' : _ = [] := h; subst h'; exact .nil) HM.emp) ?_
    rintro v4251 w4254 HM
    refine ops_ex rfl (guard_none rfl) rfl rfl (ex_assign rfl rfl) ?_
    refine ops_nil ?_
    refine at_then ?_
    obtain ⟨o4316, ho4317, H⟩ := bind_some H
    refine run_mid (fun ρ_ w_ => ∃ v4313 : Value, ∃ a4314 : List ByteArray, a4314 = o4316 ∧ ρ_ = [(1, .pointer (some ⟨b4201, 0, none⟩)), (4, v4233), (5, v4313)] ∧ Mem w [] w_ [box b4201 25 [.int .i64 x0.fKind, .int .i64 x0.fMember, p0_0, p0_1], own kStr 9 v4233 a4234, own kStr 9 v4313 a4314]) ?_ ?_
    · clear H
      refine run_seq ?_
      refine run_region rfl ?_
      refine ops_ex rfl (guard_none rfl) rfl rfl (ex_fieldAddr (off' := 2) rfl rfl Tryz.underlying25 rfl tsz22 rfl) ?_
      refine ops_ex rfl (guard_none rfl) rfl rfl (ex_load1 rfl rfl Tryz.underlying22 rfl ((HM.box_at 1 rfl) 2 _ rfl)) ?_
      refine ops_ex rfl (guard_none rfl) rfl rfl (ex_len (d := kRef) (xs := x0.fIns) rfl rfl Tryz.underlying22 hp0_0) ?_
      refine ops_ex rfl (guard_none rfl) rfl rfl (ex_move rfl rfl) ?_
      refine ops_nil ?_
      refine at_then ?_
      refine run_block ?_
      replace HM := HM.front 2 rfl rfl
      replace HM := HM.front 2 rfl rfl
      refine run_loop (fun k_ ρ_ w_ => ∃ v4336 : Value, ∃ a4337 : List ByteArray, ∃ a4339 : Int, impl_txText.l0 x0 k_ a4337 a4339 = some o4316 ∧ ρ_ = [(1, .pointer (some ⟨b4201, 0, none⟩)), (4, v4233), (5, v4336), (28, p0_0), (29, .int .i64 (x0.fIns.length : Int)), (30, .int .i64 a4339)] ∧ Mem w [] w_ [box b4201 25 [.int .i64 x0.fKind, .int .i64 x0.fMember, p0_0, p0_1], own kStr 9 v4233 a4234, own kStr 9 v4336 a4337]) k (ρ1 := [(1, .pointer (some ⟨b4201, 0, none⟩)), (4, v4233), (5, v4251), (28, p0_0), (29, .int .i64 (x0.fIns.length : Int)), (30, .int .i64 0)]) ⟨_, _, _, ho4317, rfl, HM⟩ (Sub.cons rfl (Sub.cons rfl (Sub.cons rfl (Sub.cons rfl (Sub.cons rfl (Sub.cons rfl Sub.nil)))))) ?_
      clear HM ho4317
      rintro k4358 _ w4359 ⟨v4336, a4337, a4339, ho4317, rfl, HM⟩
      obtain _ | k4358 := k4358
      · exact nomatch ((impl_txText.l0_z x0 a4337 a4339).symm.trans ho4317)
      replace ho4317 := (impl_txText.l0_s x0 k4358 a4337 a4339).symm.trans ho4317
      refine run_seq ?_
      refine run_region rfl ?_
      refine ops_ex rfl (guard_none rfl) rfl rfl (ex_lss rfl rfl rfl) ?_
      refine ops_nil ?_
      refine at_then ?_
      refine run_seq ?_
      refine run_cond (b := (decide (a4339 < (x0.fIns.length : Int)))) rfl (fun hb4360 => ?_) (fun hb4360 => ?_)
      · replace ho4317 := cond_t hb4360 ho4317
        refine run_skip ?_
        refine at_then ?_
        refine run_seq ?_
        refine run_block ?_
        refine run_seq ?_
        obtain ⟨e4361, ho4317⟩ := chk_some ho4317
        refine run_region rfl ?_
        have hc4362 : CellsAt _ (sb p0_0) (so p0_0 + (a4339).toNat * 2) [(.int .i64 ((gt x0.fIns a4339).fTx)), (.int .i64 ((gt x0.fIns a4339).fAt))] := rd_plain hp0_0 e4361
        refine ops_ex rfl (guard_none rfl) rfl rfl (ex_indexAddr (d := kRef) rfl rfl rfl Tryz.underlying22 tsz60 hp0_0 (idx_lo e4361) (idx_hi e4361)) ?_
        refine ops_ex rfl (guard_none rfl) rfl rfl (ex_loadN (cs := [(.int .i64 ((gt x0.fIns a4339).fTx)), (.int .i64 ((gt x0.fIns a4339).fAt))]) rfl rfl Tryz.underlying60 rfl tsz60 rfl ((HM.at_ hc4362).sub 0 2 rfl)) ?_
        refine ops_does rfl (guard_none rfl) rfl rfl (does_alloc (cs := [.int .i64 0, .int .i64 0]) rfl tz60 rfl HM) ?_
        rintro _ w4366 ⟨b4363, rfl, HM⟩
        refine ops_doesS rfl (guard_none rfl) rfl (does_store (vs := [.int .i64 ((gt x0.fIns a4339).fTx), .int .i64 ((gt x0.fIns a4339).fAt)]) (cs' := [.int .i64 ((gt x0.fIns a4339).fTx), .int .i64 ((gt x0.fIns a4339).fAt)]) rfl rfl rfl rfl tsz60 (Ones.int (Ones.int Ones.nil)) rfl rfl HM) ?_
        rintro w4367 HM
        refine ops_nil ?_
        refine at_then ?_
        obtain ⟨t4368, h4369, ho4317⟩ := bind_some ho4317
        obtain ⟨e4370, ho4317⟩ := chk_some ho4317
        obtain ⟨t4371, h4372, ho4317⟩ := bind_some ho4317
        obtain ⟨e4373, ho4317⟩ := chk_some ho4317
        obtain ⟨e4377, ho4317⟩ := chk_some ho4317
        replace HM := HM.front 3 rfl rfl
        refine run_drawf (fun w_ => Mem w [] w_ [box b4363 60 [.int .i64 ((gt x0.fIns a4339).fTx), .int .i64 ((gt x0.fIns a4339).fAt)], box b4201 25 [.int .i64 x0.fKind, .int .i64 x0.fMember, p0_0, p0_1], own kStr 9 v4233 a4234]) [(0, true), (1, true), (2, true), (5, true), (6, true), (3, false), (4, true), (7, false), (8, true), (9, false), (10, false), (11, true)] mixed rfl rfl (by kernel_rfl) ?_
        replace HM := HM.grow (fr_drew _)
        have hS := Mem.suf (M := [own kStr 9 v4336 a4337]) HM
        refine drwp_take rfl (guard_none rfl) rfl rfl (fun w_ hS_ => (ex_move rfl rfl)) hS ?_
        refine drwp_take rfl (guard_none rfl) rfl rfl (fun w_ hS_ => (ex_fieldAddr (off' := 0) rfl rfl Tryz.underlying60 rfl tsz2 rfl)) hS ?_
        refine drwp_take rfl (guard_none rfl) rfl rfl (fun w_ hS_ => (ex_load1 rfl rfl Tryz.underlying2 rfl ((hS_.box_at 0 rfl) 0 _ rfl))) hS ?_
        refine drwp_take rfl (guard_none rfl) rfl rfl (fun w_ hS_ => (ex_fieldAddr (off' := 1) rfl rfl Tryz.underlying60 rfl tsz2 rfl)) hS ?_
        refine drwp_take rfl (guard_none rfl) rfl rfl (fun w_ hS_ => (ex_load1 rfl rfl Tryz.underlying2 rfl ((hS_.box_at 0 rfl) 1 _ rfl))) hS ?_
        refine drwp_one rfl (guard_none rfl) rfl rfl (does_callk rfl callok45 rfl (impl_dec.calls (x0 := (gt x0.fIns a4339).fTx) (HM.tabP htab) h4369)) ?_
        rintro _ w4380 ⟨rfl, hn⟩
        replace HM : Mem w [] w4380 [own kStr 9 v4336 a4337, box b4363 60 [.int .i64 ((gt x0.fIns a4339).fTx), .int .i64 ((gt x0.fIns a4339).fAt)], box b4201 25 [.int .i64 x0.fKind, .int .i64 x0.fMember, p0_0, p0_1], own kStr 9 v4233 a4234] := HM.call hn
        refine ⟨Mem.suf (M := [own kStr 9 v4336 a4337]) HM, ?_⟩
        have hS := Mem.suf (M := [own kStr 9 v4336 a4337]) HM
        refine drwp_take rfl (guard_none rfl) rfl rfl (fun w_ hS_ => (ex_sadd rfl rfl rfl (leB_le e4370))) hS ?_
        refine drwp_one rfl (guard_none rfl) rfl rfl (does_callk rfl callok45 rfl (impl_dec.calls (x0 := (gt x0.fIns a4339).fAt) (HM.tabP htab) h4372)) ?_
        rintro _ w4381 ⟨rfl, hn⟩
        replace HM : Mem w [] w4381 [own kStr 9 v4336 a4337, box b4363 60 [.int .i64 ((gt x0.fIns a4339).fTx), .int .i64 ((gt x0.fIns a4339).fAt)], box b4201 25 [.int .i64 x0.fKind, .int .i64 x0.fMember, p0_0, p0_1], own kStr 9 v4233 a4234] := HM.call hn
        refine ⟨Mem.suf (M := [own kStr 9 v4336 a4337]) HM, ?_⟩
        have hS := Mem.suf (M := [own kStr 9 v4336 a4337]) HM
        refine drwp_take rfl (guard_none rfl) rfl rfl (fun w_ hS_ => (ex_sadd rfl rfl rfl (leB_le e4373))) hS ?_
        refine drwp_one rfl (guard_none rfl) rfl rfl (does_lit (e := 9) (cs := [.string ((t4368 ++ (⟨#[58]⟩ : ByteArray)) ++ t4371)]) (xs := ([(t4368 ++ (⟨#[58]⟩ : ByteArray)) ++ t4371] : List ByteArray)) kStr rfl rfl (fun _ => by kernel_rfl) rfl rfl (fun _ _ h => by have h' : _ = [] := h; subst h'; exact (Elems.cons (d := kStr) (x := (t4368 ++ (⟨#[58]⟩ : ByteArray)) ++ t4371) (f := []) ⟨rfl, rfl⟩ .nil)) HM.emp) ?_
        rintro v4374 w4382 HM
        refine ⟨Mem.suf (M := [own kStr 9 v4374 ([(t4368 ++ (⟨#[58]⟩ : ByteArray)) ++ t4371] : List ByteArray), own kStr 9 v4336 a4337]) HM, ?_⟩
        have hS := Mem.suf (M := [own kStr 9 v4374 ([(t4368 ++ (⟨#[58]⟩ : ByteArray)) ++ t4371] : List ByteArray), own kStr 9 v4336 a4337]) HM
        replace HM := HM.front 1 rfl rfl
        refine drwp_one rfl (guard_none rfl) rfl rfl (does_appendR kStr flat_plain rfl rfl rfl Tryz.underlying36 tsz9 rfl tby9 tz9 rfl rfl (leB_le e4377) (HM.own_rd 1 rfl) HM) ?_
        rintro v4378 w4383 HM
        refine ⟨Mem.suf (M := [own kStr 9 v4378 (a4337 ++ ([(t4368 ++ (⟨#[58]⟩ : ByteArray)) ++ t4371] : List ByteArray)), own kStr 9 v4374 ([(t4368 ++ (⟨#[58]⟩ : ByteArray)) ++ t4371] : List ByteArray)]) HM, ?_⟩
        have hS := Mem.suf (M := [own kStr 9 v4378 (a4337 ++ ([(t4368 ++ (⟨#[58]⟩ : ByteArray)) ++ t4371] : List ByteArray)), own kStr 9 v4374 ([(t4368 ++ (⟨#[58]⟩ : ByteArray)) ++ t4371] : List ByteArray)]) HM
        refine drwp_take rfl (guard_none rfl) rfl rfl (fun w_ hS_ => (ex_assign rfl rfl)) hS ?_
        refine drwp_done ?_
        refine at_block ?_
        refine at_then ?_
        refine run_region rfl ?_
        refine ops_ex rfl (guard_none rfl) rfl rfl (ex_add rfl rfl rfl) ?_
        refine ops_ex rfl (guard_none rfl) rfl rfl (ex_move rfl rfl) ?_
        refine ops_nil ?_
        replace HM := (HM.front 1 rfl rfl).drop
        replace HM := (HM.front 1 rfl rfl).drop
        replace HM := HM.front 2 rfl rfl
        replace HM := HM.front 2 rfl rfl
        exact at_again k4358 (ρ1 := [(1, .pointer (some ⟨b4201, 0, none⟩)), (4, v4233), (5, v4378), (28, p0_0), (29, .int .i64 (x0.fIns.length : Int)), (30, .int .i64 (wrap64 (a4339 + 1)))]) (Nat.lt_succ_self _) ⟨_, _, _, ho4317, rfl, HM⟩ (Sub.cons rfl (Sub.cons rfl (Sub.cons rfl (Sub.cons rfl (Sub.cons rfl (Sub.cons rfl Sub.nil))))))
      · replace ho4317 := cond_f hb4360 ho4317
        refine run_exit ?_
        refine at_then_exit ?_
        refine at_then_exit ?_
        refine at_block_exit ?_
        exact at_mid (ρ' := [(1, .pointer (some ⟨b4201, 0, none⟩)), (4, v4233), (5, v4336)]) ⟨_, _, (Option.some.inj ho4317), rfl, HM⟩ (Sub.cons rfl (Sub.cons rfl (Sub.cons rfl Sub.nil)))
    · rintro _ w4384 ⟨v4313, a4314, rfl, rfl, HM⟩
      refine run_seq ?_
      obtain ⟨t4385, h4386, H⟩ := bind_some H
      obtain ⟨e4390, H⟩ := chk_some H
      refine run_region rfl ?_
      refine ops_ex rfl (guard_none rfl) rfl rfl (ex_move rfl rfl) ?_
      refine ops_ex rfl (guard_none rfl) rfl rfl (ex_move rfl rfl) ?_
      refine ops_does rfl (guard_none rfl) rfl rfl (does_callk rfl callok54 rfl (strings_Join.calls (x0 := a4314) (x1 := (⟨#[43]⟩ : ByteArray)) (HM.own_rd 2 rfl) h4386)) ?_
      rintro _ w4393 ⟨rfl, hn⟩
      replace HM : Mem w [] w4393 [box b4201 25 [.int .i64 x0.fKind, .int .i64 x0.fMember, p0_0, p0_1], own kStr 9 v4233 a4234, own kStr 9 v4313 a4314] := HM.call hn
      refine ops_does rfl (guard_none rfl) rfl rfl (does_lit (e := 9) (cs := [.string t4385]) (xs := ([t4385] : List ByteArray)) kStr rfl rfl (fun _ => by kernel_rfl) rfl rfl (fun _ _ h => by have h' : _ = [] := h; subst h'; exact (Elems.cons (d := kStr) (x := t4385) (f := []) ⟨rfl, rfl⟩ .nil)) HM.emp) ?_
      rintro v4387 w4394 HM
      replace HM := HM.front 2 rfl rfl
      refine ops_does rfl (guard_none rfl) rfl rfl (does_appendR kStr flat_plain rfl rfl rfl Tryz.underlying36 tsz9 rfl tby9 tz9 rfl rfl (leB_le e4390) (HM.own_rd 1 rfl) HM) ?_
      rintro v4391 w4395 HM
      refine ops_ex rfl (guard_none rfl) rfl rfl (ex_assign rfl rfl) ?_
      refine ops_nil ?_
      refine at_then ?_
      obtain ⟨o4463, ho4464, H⟩ := bind_some H
      refine run_mid (fun ρ_ w_ => ∃ v4460 : Value, ∃ a4461 : List ByteArray, a4461 = o4463 ∧ ρ_ = [(4, v4460)] ∧ Mem w [] w_ [own kStr 9 v4460 a4461]) ?_ ?_
      · clear H
        refine run_seq ?_
        refine run_region rfl ?_
        refine ops_ex rfl (guard_none rfl) rfl rfl (ex_fieldAddr (off' := 3) rfl rfl Tryz.underlying25 rfl tsz23 rfl) ?_
        refine ops_ex rfl (guard_none rfl) rfl rfl (ex_load1 rfl rfl Tryz.underlying23 rfl ((HM.box_at 2 rfl) 3 _ rfl)) ?_
        refine ops_ex rfl (guard_none rfl) rfl rfl (ex_len (d := kOut) (xs := x0.fOuts) rfl rfl Tryz.underlying23 hp0_1) ?_
        refine ops_ex rfl (guard_none rfl) rfl rfl (ex_move rfl rfl) ?_
        refine ops_nil ?_
        refine at_then ?_
        refine run_block ?_
        replace HM := (HM.front 1 rfl rfl).drop
        replace HM := (HM.front 1 rfl rfl).drop
        replace HM := (HM.front 1 rfl rfl).drop
        refine run_loop (fun k_ ρ_ w_ => ∃ v4485 : Value, ∃ a4486 : List ByteArray, ∃ a4488 : Int, impl_txText.l1 x0 k_ a4486 a4488 = some o4463 ∧ ρ_ = [(4, v4485), (52, p0_1), (53, .int .i64 (x0.fOuts.length : Int)), (54, .int .i64 a4488)] ∧ Mem w [] w_ [own kStr 9 v4485 a4486]) k (ρ1 := [(4, v4391), (52, p0_1), (53, .int .i64 (x0.fOuts.length : Int)), (54, .int .i64 0)]) ⟨_, _, _, ho4464, rfl, HM⟩ (Sub.cons rfl (Sub.cons rfl (Sub.cons rfl (Sub.cons rfl Sub.nil)))) ?_
        clear HM ho4464
        rintro k4509 _ w4510 ⟨v4485, a4486, a4488, ho4464, rfl, HM⟩
        obtain _ | k4509 := k4509
        · exact nomatch ((impl_txText.l1_z x0 a4486 a4488).symm.trans ho4464)
        replace ho4464 := (impl_txText.l1_s x0 k4509 a4486 a4488).symm.trans ho4464
        refine run_seq ?_
        refine run_region rfl ?_
        refine ops_ex rfl (guard_none rfl) rfl rfl (ex_lss rfl rfl rfl) ?_
        refine ops_nil ?_
        refine at_then ?_
        refine run_seq ?_
        refine run_cond (b := (decide (a4488 < (x0.fOuts.length : Int)))) rfl (fun hb4511 => ?_) (fun hb4511 => ?_)
        · replace ho4464 := cond_t hb4511 ho4464
          refine run_skip ?_
          refine at_then ?_
          refine run_seq ?_
          refine run_block ?_
          refine run_seq ?_
          obtain ⟨e4512, ho4464⟩ := chk_some ho4464
          refine run_region rfl ?_
          obtain ⟨kv4514, hc4513, hk4515⟩ : ∃ u, CellsAt _ (sb p0_1) (so p0_1 + (a4488).toNat * 4) [(.int .i64 ((gt x0.fOuts a4488).fValue)), u, (.int .i64 ((gt x0.fOuts a4488).fRule.fNeed)), (.int .i64 ((gt x0.fOuts a4488).fRule.fAfter))] ∧ RdS kInt _ u ((gt x0.fOuts a4488).fRule.fKeys) := rd_with1 hp0_1 e4512
          refine ops_ex rfl (guard_none rfl) rfl rfl (ex_indexAddr (d := kOut) rfl rfl rfl Tryz.underlying23 tsz49 hp0_1 (idx_lo e4512) (idx_hi e4512)) ?_
          refine ops_ex rfl (guard_none rfl) rfl rfl (ex_loadN (cs := [(.int .i64 ((gt x0.fOuts a4488).fValue)), kv4514, (.int .i64 ((gt x0.fOuts a4488).fRule.fNeed)), (.int .i64 ((gt x0.fOuts a4488).fRule.fAfter))]) rfl rfl Tryz.underlying49 rfl tsz49 rfl ((HM.at_ hc4513).sub 0 4 rfl)) ?_
          refine ops_does rfl (guard_none rfl) rfl rfl (does_alloc (cs := [.int .i64 0, .slice none 0 0, .int .i64 0, .int .i64 0]) rfl tz49 rfl HM) ?_
          rintro _ w4519 ⟨b4516, rfl, HM⟩
          refine ops_doesS rfl (guard_none rfl) rfl (does_store (vs := [.int .i64 ((gt x0.fOuts a4488).fValue), kv4514, .int .i64 ((gt x0.fOuts a4488).fRule.fNeed), .int .i64 ((gt x0.fOuts a4488).fRule.fAfter)]) (cs' := [.int .i64 ((gt x0.fOuts a4488).fValue), kv4514, .int .i64 ((gt x0.fOuts a4488).fRule.fNeed), .int .i64 ((gt x0.fOuts a4488).fRule.fAfter)]) rfl rfl rfl rfl tsz49 (Ones.int (Ones.rd hk4515 (Ones.int (Ones.int Ones.nil)))) rfl rfl HM) ?_
          rintro w4520 HM
          refine ops_nil ?_
          refine at_then ?_
          obtain ⟨t4521, h4522, ho4464⟩ := bind_some ho4464
          obtain ⟨e4523, ho4464⟩ := chk_some ho4464
          obtain ⟨t4524, h4525, ho4464⟩ := bind_some ho4464
          obtain ⟨e4526, ho4464⟩ := chk_some ho4464
          obtain ⟨e4530, ho4464⟩ := chk_some ho4464
          replace HM := HM.front 1 rfl rfl
          refine run_drawf (fun w_ => Mem w [] w_ [box b4516 49 [.int .i64 ((gt x0.fOuts a4488).fValue), kv4514, .int .i64 ((gt x0.fOuts a4488).fRule.fNeed), .int .i64 ((gt x0.fOuts a4488).fRule.fAfter)]]) [(0, true), (1, true), (2, true), (5, true), (6, true), (3, false), (4, true), (7, false), (8, true), (9, false), (10, false), (11, true)] mixed rfl rfl (by kernel_rfl) ?_
          replace HM := HM.grow (fr_drew _)
          have hS := Mem.suf (M := [own kStr 9 v4485 a4486]) HM
          refine drwp_take rfl (guard_none rfl) rfl rfl (fun w_ hS_ => (ex_move rfl rfl)) hS ?_
          refine drwp_take rfl (guard_none rfl) rfl rfl (fun w_ hS_ => (ex_fieldAddr (off' := 0) rfl rfl Tryz.underlying49 rfl tsz2 rfl)) hS ?_
          refine drwp_take rfl (guard_none rfl) rfl rfl (fun w_ hS_ => (ex_load1 rfl rfl Tryz.underlying2 rfl ((hS_.box_at 0 rfl) 0 _ rfl))) hS ?_
          refine drwp_take rfl (guard_none rfl) rfl rfl (fun w_ hS_ => (ex_fieldAddr (off' := 1) rfl rfl Tryz.underlying49 rfl tsz44 rfl)) hS ?_
          refine drwp_take rfl (guard_none rfl) rfl rfl (fun w_ hS_ => (ex_loadN (cs := [kv4514, (.int .i64 ((gt x0.fOuts a4488).fRule.fNeed)), (.int .i64 ((gt x0.fOuts a4488).fRule.fAfter))]) rfl rfl Tryz.underlying44 rfl tsz44 rfl ((hS_.box_at 0 rfl).sub 1 3 rfl))) hS ?_
          refine drwp_one rfl (guard_none rfl) rfl rfl (does_callk rfl callok45 rfl (impl_dec.calls (x0 := (gt x0.fOuts a4488).fValue) (HM.tabP htab) h4522)) ?_
          rintro _ w4533 ⟨rfl, hn⟩
          replace HM : Mem w [] w4533 [own kStr 9 v4485 a4486, box b4516 49 [.int .i64 ((gt x0.fOuts a4488).fValue), kv4514, .int .i64 ((gt x0.fOuts a4488).fRule.fNeed), .int .i64 ((gt x0.fOuts a4488).fRule.fAfter)]] := HM.call hn
          refine ⟨Mem.suf (M := [own kStr 9 v4485 a4486]) HM, ?_⟩
          have hS := Mem.suf (M := [own kStr 9 v4485 a4486]) HM
          refine drwp_take rfl (guard_none rfl) rfl rfl (fun w_ hS_ => (ex_sadd rfl rfl rfl (leB_le e4523))) hS ?_
          refine drwp_one rfl (guard_none rfl) rfl rfl (does_callk rfl callok55 rfl (impl_ruleText.calls (x0 := (gt x0.fOuts a4488).fRule) (x1 := (⟨#[95]⟩ : ByteArray)) (HM.tabP htab) (HM.rd hk4515) h4525)) ?_
          rintro _ w4534 ⟨rfl, hn⟩
          replace HM : Mem w [] w4534 [own kStr 9 v4485 a4486, box b4516 49 [.int .i64 ((gt x0.fOuts a4488).fValue), kv4514, .int .i64 ((gt x0.fOuts a4488).fRule.fNeed), .int .i64 ((gt x0.fOuts a4488).fRule.fAfter)]] := HM.call hn
          refine ⟨Mem.suf (M := [own kStr 9 v4485 a4486]) HM, ?_⟩
          have hS := Mem.suf (M := [own kStr 9 v4485 a4486]) HM
          refine drwp_take rfl (guard_none rfl) rfl rfl (fun w_ hS_ => (ex_sadd rfl rfl rfl (leB_le e4526))) hS ?_
          refine drwp_one rfl (guard_none rfl) rfl rfl (does_lit (e := 9) (cs := [.string ((t4521 ++ (⟨#[61]⟩ : ByteArray)) ++ t4524)]) (xs := ([(t4521 ++ (⟨#[61]⟩ : ByteArray)) ++ t4524] : List ByteArray)) kStr rfl rfl (fun _ => by kernel_rfl) rfl rfl (fun _ _ h => by have h' : _ = [] := h; subst h'; exact (Elems.cons (d := kStr) (x := (t4521 ++ (⟨#[61]⟩ : ByteArray)) ++ t4524) (f := []) ⟨rfl, rfl⟩ .nil)) HM.emp) ?_
          rintro v4527 w4535 HM
          refine ⟨Mem.suf (M := [own kStr 9 v4527 ([(t4521 ++ (⟨#[61]⟩ : ByteArray)) ++ t4524] : List ByteArray), own kStr 9 v4485 a4486]) HM, ?_⟩
          have hS := Mem.suf (M := [own kStr 9 v4527 ([(t4521 ++ (⟨#[61]⟩ : ByteArray)) ++ t4524] : List ByteArray), own kStr 9 v4485 a4486]) HM
          replace HM := HM.front 1 rfl rfl
          refine drwp_one rfl (guard_none rfl) rfl rfl (does_appendR kStr flat_plain rfl rfl rfl Tryz.underlying36 tsz9 rfl tby9 tz9 rfl rfl (leB_le e4530) (HM.own_rd 1 rfl) HM) ?_
          rintro v4531 w4536 HM
          refine ⟨Mem.suf (M := [own kStr 9 v4531 (a4486 ++ ([(t4521 ++ (⟨#[61]⟩ : ByteArray)) ++ t4524] : List ByteArray)), own kStr 9 v4527 ([(t4521 ++ (⟨#[61]⟩ : ByteArray)) ++ t4524] : List ByteArray)]) HM, ?_⟩
          have hS := Mem.suf (M := [own kStr 9 v4531 (a4486 ++ ([(t4521 ++ (⟨#[61]⟩ : ByteArray)) ++ t4524] : List ByteArray)), own kStr 9 v4527 ([(t4521 ++ (⟨#[61]⟩ : ByteArray)) ++ t4524] : List ByteArray)]) HM
          refine drwp_take rfl (guard_none rfl) rfl rfl (fun w_ hS_ => (ex_assign rfl rfl)) hS ?_
          refine drwp_done ?_
          refine at_block ?_
          refine at_then ?_
          refine run_region rfl ?_
          refine ops_ex rfl (guard_none rfl) rfl rfl (ex_add rfl rfl rfl) ?_
          refine ops_ex rfl (guard_none rfl) rfl rfl (ex_move rfl rfl) ?_
          refine ops_nil ?_
          replace HM := (HM.front 1 rfl rfl).drop
          replace HM := (HM.front 1 rfl rfl).drop
          exact at_again k4509 (ρ1 := [(4, v4531), (52, p0_1), (53, .int .i64 (x0.fOuts.length : Int)), (54, .int .i64 (wrap64 (a4488 + 1)))]) (Nat.lt_succ_self _) ⟨_, _, _, ho4464, rfl, HM⟩ (Sub.cons rfl (Sub.cons rfl (Sub.cons rfl (Sub.cons rfl Sub.nil))))
        · replace ho4464 := cond_f hb4511 ho4464
          refine run_exit ?_
          refine at_then_exit ?_
          refine at_then_exit ?_
          refine at_block_exit ?_
          exact at_mid (ρ' := [(4, v4485)]) ⟨_, _, (Option.some.inj ho4464), rfl, HM⟩ (Sub.cons rfl Sub.nil)
      · rintro _ w4537 ⟨v4460, a4461, rfl, rfl, HM⟩
        refine run_seq ?_
        obtain ⟨t4538, h4539, H⟩ := bind_some H
        refine run_region rfl ?_
        refine ops_ex rfl (guard_none rfl) rfl rfl (ex_move rfl rfl) ?_
        refine ops_does rfl (guard_none rfl) rfl rfl (does_callk rfl callok54 rfl (strings_Join.calls (x0 := a4461) (x1 := (⟨#[32]⟩ : ByteArray)) (HM.own_rd 0 rfl) h4539)) ?_
        rintro _ w4540 ⟨rfl, hn⟩
        replace HM : Mem w [] w4540 [own kStr 9 v4460 a4461] := HM.call hn
        refine ops_ex rfl (guard_none rfl) rfl rfl (ex_assign rfl rfl) ?_
        refine ops_nil ?_
        refine at_then ?_
        refine run_seq ?_
        refine run_seq ?_
        refine run_region rfl ?_
        refine ops_ex rfl (guard_none rfl) rfl rfl (ex_move rfl rfl) ?_
        refine ops_ex rfl (guard_none rfl) rfl rfl (ex_strlen rfl rfl Tryz.underlying9) ?_
        refine ops_ex rfl (guard_none rfl) rfl rfl (ex_gtr rfl rfl rfl) ?_
        refine ops_nil ?_
        refine at_then ?_
        refine run_cond (b := (decide (300 < (t4538.size : Int)))) rfl (fun hb4541 => ?_) (fun hb4541 => ?_)
        · replace H := cond_t hb4541 H
          refine run_seq ?_
          refine run_region rfl ?_
          refine ops_ex rfl (guard_none rfl) rfl rfl (ex_assign rfl rfl) ?_
          refine ops_ex rfl (guard_none rfl) rfl rfl (ex_assign rfl rfl) ?_
          refine ops_nil ?_
          refine at_then ?_
          refine run_ret ?_
          refine at_then_ret ?_
          replace HM := (HM.front 0 rfl rfl).drop
          have hR := Option.some.inj H
          subst hR
          exact at_ret2 rfl rfl rfl ⟨_, rfl, rfl, HM⟩
        · replace H := cond_f hb4541 H
          refine run_skip ?_
          refine at_then ?_
          refine run_seq ?_
          refine run_region rfl ?_
          refine ops_ex rfl (guard_none rfl) rfl rfl (ex_move rfl rfl) ?_
          refine ops_ex rfl (guard_none rfl) rfl rfl (ex_assign rfl rfl) ?_
          refine ops_ex rfl (guard_none rfl) rfl rfl (ex_assign rfl rfl) ?_
          refine ops_nil ?_
          refine at_then ?_
          refine run_ret ?_
          replace HM := (HM.front 0 rfl rfl).drop
          have hR := Option.some.inj H
          subst hR
          exact at_ret2 rfl rfl rfl ⟨_, rfl, rfl, HM⟩
end Go.Proofs.YtcpacdbdehphkaaGreatDoor.Zk
